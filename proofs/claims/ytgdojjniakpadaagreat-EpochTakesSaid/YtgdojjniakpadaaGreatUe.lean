/- Walks that follow mirrors: Ue. Printed by mx.py. -/
import Derived.Test.YtgdojjniakpadaaGreatUd
import Derived.Test.YtgdojjniakpadaaGreatZd
set_option linter.unusedVariables false
set_option linter.unusedSimpArgs false
set_option maxRecDepth 100000
set_option maxHeartbeats 2000000
namespace Go.Proofs.YtgdojjniakpadaaGreat.Mx
open Go Go.RowKit Go.Sx
theorem Yl : FA Tryz.prog 38 2 2 := fun _ _ _ => by kernel_rfl
theorem Gc : FA Tryz.prog 38 5 39 := fun _ _ _ => by kernel_rfl
theorem Hj : Yd Tryz.prog 32 := fun _ => ⟨by kernel_rfl, by kernel_rfl⟩
theorem Gm : ZV Tryz.prog 57 (.agg [.int .i64 0, .slice none 0 0, .int .u64 0, .int .u64 0, .int .i64 0, .bool false, .int .i64 0, .int .u8 0, .int .u8 0, .int .u8 0, .int .u8 0, .int .u8 0, .int .u8 0, .int .u8 0, .int .u8 0, .int .u8 0, .int .u8 0, .int .u8 0, .int .u8 0, .int .u8 0, .int .u8 0, .int .u8 0, .int .u8 0, .bool false, .int .i64 0, .int .u8 0, .int .u8 0, .int .u8 0, .int .u8 0, .int .u8 0, .int .u8 0, .int .u8 0, .int .u8 0, .int .u8 0, .int .u8 0, .int .u8 0, .int .u8 0, .int .u8 0, .int .u8 0, .int .u8 0, .int .u8 0].toArray) := fun _ => by kernel_rfl
theorem Qpd : Pg Tryz.prog 48 0 72 18 [] := Qpf Tryz.underlying48 (Hs).siz
theorem Pp : FA Tryz.prog 57 0 0 := fun _ _ _ => by kernel_rfl
theorem Zr : Ky Tryz.prog 57 41 := fun _ => ⟨by kernel_rfl, by kernel_rfl⟩
theorem Cb : FA Tryz.prog 52 0 0 := fun _ _ _ => by kernel_rfl
theorem Xaq : Wq Tryz.prog 2 50 [.i .u64, .i .u64] := Qen Tryz.underlying50 (by kernel_rfl) Vk (show Sw _ 1 _ _ _ from (Dv (ks1 := [.i .u64]) (ks2 := [.i .u64]) rfl (by simp) (Qel.up (by decide)) (Dv (ks1 := [.i .u64]) (ks2 := []) rfl (by simp) (Qel.up (by decide)) (Qeo _))))
theorem Xax : Tt Tryz.prog 50 [.i .u64, .i .u64] := ⟨by kernel_rfl, Vk, 2, by decide, Xaq⟩
theorem Xas : Wq Tryz.prog 3 72 [.i .i64, .i .i64, .i .u8, .i .u8, .i .u8, .i .u8, .i .u8, .i .u8, .i .u8, .i .u8, .i .u8, .i .u8, .i .u8, .i .u8, .i .u8, .i .u8, .i .u8, .i .u8] := Qen Tryz.underlying72 (by kernel_rfl) Hs (show Sw _ 2 _ _ _ from (Dv (ks1 := [.i .i64]) (ks2 := [.i .i64, .i .u8, .i .u8, .i .u8, .i .u8, .i .u8, .i .u8, .i .u8, .i .u8, .i .u8, .i .u8, .i .u8, .i .u8, .i .u8, .i .u8, .i .u8, .i .u8]) rfl (by simp) (Qem.up (by decide)) (Dv (ks1 := [.i .i64]) (ks2 := [.i .u8, .i .u8, .i .u8, .i .u8, .i .u8, .i .u8, .i .u8, .i .u8, .i .u8, .i .u8, .i .u8, .i .u8, .i .u8, .i .u8, .i .u8, .i .u8]) rfl (by simp) (Qem.up (by decide)) (Dv (ks1 := [.i .u8, .i .u8, .i .u8, .i .u8, .i .u8, .i .u8, .i .u8, .i .u8, .i .u8, .i .u8, .i .u8, .i .u8, .i .u8, .i .u8, .i .u8, .i .u8]) (ks2 := []) rfl (by simp) (Qma.up (by decide)) (Qeo _)))))
theorem Xaz : Tt Tryz.prog 72 [.i .i64, .i .i64, .i .u8, .i .u8, .i .u8, .i .u8, .i .u8, .i .u8, .i .u8, .i .u8, .i .u8, .i .u8, .i .u8, .i .u8, .i .u8, .i .u8, .i .u8, .i .u8] := ⟨by kernel_rfl, Hs, 3, by decide, Xas⟩
theorem Xa6 : En Tryz.prog 68 := fun _ _ => by kernel_rfl
theorem Nb : FA Tryz.prog 57 1 4 := fun _ _ _ => by kernel_rfl
theorem Sa : FA Tryz.prog 57 2 5 := fun _ _ _ => by kernel_rfl
theorem Ov : Ky Tryz.prog 55 36 := fun _ => ⟨by kernel_rfl, by kernel_rfl⟩
theorem Sg : Yd Tryz.prog 4 := fun _ => ⟨by kernel_rfl, by kernel_rfl⟩
theorem Xap : Wq Tryz.prog 1 4 [.b] := Xat Tryz.underlying4 Sg
theorem Yu : Ky Tryz.prog 54 18 := fun _ => ⟨by kernel_rfl, by kernel_rfl⟩
theorem Qr8 : Wq Tryz.prog 3 54 [.b, .i .i64, .i .u8, .i .u8, .i .u8, .i .u8, .i .u8, .i .u8, .i .u8, .i .u8, .i .u8, .i .u8, .i .u8, .i .u8, .i .u8, .i .u8, .i .u8, .i .u8] := Qen Tryz.underlying54 (by kernel_rfl) Yu (show Sw _ 2 _ _ _ from (Dv (ks1 := [.b]) (ks2 := [.i .i64, .i .u8, .i .u8, .i .u8, .i .u8, .i .u8, .i .u8, .i .u8, .i .u8, .i .u8, .i .u8, .i .u8, .i .u8, .i .u8, .i .u8, .i .u8, .i .u8]) rfl (by simp) (Xap.up (by decide)) (Dv (ks1 := [.i .i64]) (ks2 := [.i .u8, .i .u8, .i .u8, .i .u8, .i .u8, .i .u8, .i .u8, .i .u8, .i .u8, .i .u8, .i .u8, .i .u8, .i .u8, .i .u8, .i .u8, .i .u8]) rfl (by simp) (Qem.up (by decide)) (Dv (ks1 := [.i .u8, .i .u8, .i .u8, .i .u8, .i .u8, .i .u8, .i .u8, .i .u8, .i .u8, .i .u8, .i .u8, .i .u8, .i .u8, .i .u8, .i .u8, .i .u8]) (ks2 := []) rfl (by simp) (Qma.up (by decide)) (Qeo _)))))
theorem Xar : Wq Tryz.prog 4 55 [.b, .i .i64, .i .u8, .i .u8, .i .u8, .i .u8, .i .u8, .i .u8, .i .u8, .i .u8, .i .u8, .i .u8, .i .u8, .i .u8, .i .u8, .i .u8, .i .u8, .i .u8, .b, .i .i64, .i .u8, .i .u8, .i .u8, .i .u8, .i .u8, .i .u8, .i .u8, .i .u8, .i .u8, .i .u8, .i .u8, .i .u8, .i .u8, .i .u8, .i .u8, .i .u8] := Qr9 (ks := [.b, .i .i64, .i .u8, .i .u8, .i .u8, .i .u8, .i .u8, .i .u8, .i .u8, .i .u8, .i .u8, .i .u8, .i .u8, .i .u8, .i .u8, .i .u8, .i .u8, .i .u8]) Tryz.underlying55 (Qrv (by kernel_rfl)).choose_spec (by kernel_rfl) Ov Qr8
theorem Xay : Tt Tryz.prog 55 [.b, .i .i64, .i .u8, .i .u8, .i .u8, .i .u8, .i .u8, .i .u8, .i .u8, .i .u8, .i .u8, .i .u8, .i .u8, .i .u8, .i .u8, .i .u8, .i .u8, .i .u8, .b, .i .i64, .i .u8, .i .u8, .i .u8, .i .u8, .i .u8, .i .u8, .i .u8, .i .u8, .i .u8, .i .u8, .i .u8, .i .u8, .i .u8, .i .u8, .i .u8, .i .u8] := ⟨by kernel_rfl, Ov, 4, by decide, Xar⟩
theorem Yt : Ky Tryz.prog 30 5 := fun _ => ⟨by kernel_rfl, by kernel_rfl⟩
theorem Qm3 : En Tryz.prog 85 := fun _ _ => by kernel_rfl
theorem Ww : ZV Tryz.prog 180 (.agg [.nilFunc, .nilFunc, .nilFunc, .nilFunc].toArray) := fun _ => by kernel_rfl
theorem Ag : Yd Tryz.prog 85 := fun _ => ⟨by kernel_rfl, by kernel_rfl⟩
theorem Qn3 : Yd Tryz.prog 107 := fun _ => ⟨by kernel_rfl, by kernel_rfl⟩
theorem Qn4 : Yd Tryz.prog 110 := fun _ => ⟨by kernel_rfl, by kernel_rfl⟩
theorem Xd6 : Yd Tryz.prog 178 := fun _ => ⟨by kernel_rfl, by kernel_rfl⟩
theorem Gp : BS Tryz.prog 180 (fun i => [(0, 1), (1, 1), (2, 1), (3, 1)][i]?) [.nilFunc, .nilFunc, .nilFunc, .nilFunc] := Tv Tryz.underlying180 Ww ⟨rfl, (Ag).siz, rfl, (Qn3).siz, rfl, (Qn4).siz, rfl, (Xd6).siz, trivial⟩
theorem Je : Ky Tryz.prog 180 4 := fun _ => ⟨by kernel_rfl, by kernel_rfl⟩
theorem Qkj : ZV Tryz.prog 228 (.agg [.nilFunc, .nilFunc, .nilFunc, .nilFunc, .nilFunc, .nilFunc, .nilFunc, .nilFunc, .nilFunc, .nilFunc, .nilFunc, .nilFunc, .nilFunc, .nilFunc, .nilFunc, .nilFunc, .nilFunc, .nilFunc, .nilFunc, .nilFunc].toArray) := fun _ => by kernel_rfl
theorem Qko : BA Tryz.prog 228 4 [.nilFunc, .nilFunc, .nilFunc, .nilFunc, .nilFunc, .nilFunc, .nilFunc, .nilFunc, .nilFunc, .nilFunc, .nilFunc, .nilFunc, .nilFunc, .nilFunc, .nilFunc, .nilFunc, .nilFunc, .nilFunc, .nilFunc, .nilFunc] := ⟨_, _, Tryz.underlying228, (Je).siz, Qkj⟩
theorem Qkm : Ky Tryz.prog 228 20 := fun _ => ⟨by kernel_rfl, by kernel_rfl⟩
theorem Tg : CV Tryz.prog 5 3 .i64 := fun _ _ _ => by kernel_rfl
theorem Qb4 : FA Tryz.prog 180 0 0 := fun _ _ _ => by kernel_rfl
theorem Qlh : En Tryz.prog 128 := fun _ _ => by kernel_rfl
theorem Qli : En Tryz.prog 132 := fun _ _ => by kernel_rfl
theorem Qz5 : En Tryz.prog 30 := fun _ _ => by kernel_rfl
theorem Hv : FA Tryz.prog 30 1 1 := fun _ _ _ => by kernel_rfl
theorem Dx : FA Tryz.prog 30 0 0 := fun _ _ _ => by kernel_rfl
theorem Eu : FA Tryz.prog 30 2 2 := fun _ _ _ => by kernel_rfl
theorem Hf : FA Tryz.prog 30 3 3 := fun _ _ _ => by kernel_rfl
theorem Lc : FA Tryz.prog 30 4 4 := fun _ _ _ => by kernel_rfl
theorem Qyv : En Tryz.prog 26 := fun _ _ => by kernel_rfl
theorem Qqy : En Tryz.prog 56 := fun _ _ => by kernel_rfl
theorem Ht : BS Tryz.prog 57 (fun i => [(0, 4), (4, 1), (5, 36)][i]?) [.int .i64 0, .slice none 0 0, .int .u64 0, .int .u64 0, .int .i64 0, .bool false, .int .i64 0, .int .u8 0, .int .u8 0, .int .u8 0, .int .u8 0, .int .u8 0, .int .u8 0, .int .u8 0, .int .u8 0, .int .u8 0, .int .u8 0, .int .u8 0, .int .u8 0, .int .u8 0, .int .u8 0, .int .u8 0, .int .u8 0, .bool false, .int .i64 0, .int .u8 0, .int .u8 0, .int .u8 0, .int .u8 0, .int .u8 0, .int .u8 0, .int .u8 0, .int .u8 0, .int .u8 0, .int .u8 0, .int .u8 0, .int .u8 0, .int .u8 0, .int .u8 0, .int .u8 0, .int .u8 0] := Tv Tryz.underlying57 Gm ⟨rfl, (Jc).siz, rfl, (Qv).siz, rfl, (Ov).siz, trivial⟩
theorem Qrg : FA Tryz.prog 180 1 1 := fun _ _ _ => by kernel_rfl
theorem Qy3 : En Tryz.prog 129 := fun _ _ => by kernel_rfl
theorem Qy6 : En Tryz.prog 133 := fun _ _ => by kernel_rfl
theorem Qzl : En Tryz.prog 35 := fun _ _ => by kernel_rfl
theorem Qyb : En Tryz.prog 172 := fun _ _ => by kernel_rfl
theorem Qyc : En Tryz.prog 173 := fun _ _ => by kernel_rfl
theorem Qm4 : En Tryz.prog 98 := fun _ _ => by kernel_rfl
theorem Qxs : En Tryz.prog 114 := fun _ _ => by kernel_rfl
theorem Qxv : En Tryz.prog 117 := fun _ _ => by kernel_rfl
theorem Qqz : En Tryz.prog 57 := fun _ _ => by kernel_rfl
theorem Qxw : En Tryz.prog 118 := fun _ _ => by kernel_rfl
theorem Qxx : En Tryz.prog 119 := fun _ _ => by kernel_rfl
theorem Qzy : En Tryz.prog 58 := fun _ _ => by kernel_rfl
theorem Qhd : ZV Tryz.prog 54 (.agg [.bool false, .int .i64 0, .int .u8 0, .int .u8 0, .int .u8 0, .int .u8 0, .int .u8 0, .int .u8 0, .int .u8 0, .int .u8 0, .int .u8 0, .int .u8 0, .int .u8 0, .int .u8 0, .int .u8 0, .int .u8 0, .int .u8 0, .int .u8 0].toArray) := fun _ => by kernel_rfl
theorem Cc : FA Tryz.prog 54 0 0 := fun _ _ _ => by kernel_rfl
theorem Cd : FA Tryz.prog 54 1 1 := fun _ _ _ => by kernel_rfl
theorem Qm1 : En Tryz.prog 60 := fun _ _ => by kernel_rfl
theorem Qdd : BS Tryz.prog 54 (fun i => [(0, 1), (1, 1), (2, 16)][i]?) [.bool false, .int .i64 0, .int .u8 0, .int .u8 0, .int .u8 0, .int .u8 0, .int .u8 0, .int .u8 0, .int .u8 0, .int .u8 0, .int .u8 0, .int .u8 0, .int .u8 0, .int .u8 0, .int .u8 0, .int .u8 0, .int .u8 0, .int .u8 0] := Tv Tryz.underlying54 Qhd ⟨rfl, (Sg).siz, rfl, (Qv).siz, rfl, (Ql).siz, trivial⟩
theorem Qmc : Tt Tryz.prog 54 [.b, .i .i64, .i .u8, .i .u8, .i .u8, .i .u8, .i .u8, .i .u8, .i .u8, .i .u8, .i .u8, .i .u8, .i .u8, .i .u8, .i .u8, .i .u8, .i .u8, .i .u8] := ⟨by kernel_rfl, Yu, 3, by decide, Qr8⟩
theorem Qhy : CV Tryz.prog 3 155 .u64 := fun _ _ _ => by kernel_rfl
theorem Qm2 : En Tryz.prog 65 := fun _ _ => by kernel_rfl
theorem Qr0 : En Tryz.prog 69 := fun _ _ => by kernel_rfl
theorem Qrh : FA Tryz.prog 180 2 2 := fun _ _ _ => by kernel_rfl
theorem Qy5 : En Tryz.prog 130 := fun _ _ => by kernel_rfl
theorem Qy7 : En Tryz.prog 134 := fun _ _ => by kernel_rfl
theorem Qyi : En Tryz.prog 197 := fun _ _ => by kernel_rfl
theorem Qyj : En Tryz.prog 198 := fun _ _ => by kernel_rfl
theorem Xf6 {p0 p1 vp0_1 zp0_1 gp0_1 op0_1 vp1_2 zp1_2 gp1_2 op1_2 vp1_4 zp1_4 gp1_4 op1_4 vp1_39 zp1_39 gp1_39 op1_39 r} (hm : Qjk p0 p1 = some r) {w : World} (f : Rd w zp0_1 gp0_1 op0_1 18 vp0_1 (p0.Labels.map Xn.cs)) (g : Rd w zp1_2 gp1_2 op1_2 18 vp1_2 (p1.Head.Items.map Zd.cs)) (h : Rd w zp1_4 gp1_4 op1_4 2 vp1_4 (p1.Head.Points.map Qu.cs)) (d : Rd w zp1_39 gp1_39 op1_39 1 vp1_39 (p1.Data.map Xq)) :
    Calls Tryz.prog 13 [.agg (Qq.cs p0 vp0_1).toArray, .agg (Ze.cs p1 vp1_2 vp1_4 vp1_39).toArray].toArray w fun e w' => ∃ v, e = .returned v ∧ (v = .bool r ∧ Gr w w') := by
 unfold Qjk at hm
 refine Xe 29 Tryz.func13 rfl rfl rfl<|qs 3 rfl<|qe rfl (Qy (cs := Qq.cs p0 vp0_1) rfl rfl) ?_
 rintro _ w1 ⟨b1, rfl, u, j, G1⟩
 refine qe rfl (Qy (cs := Ze.cs p1 vp1_2 vp1_4 vp1_39) rfl rfl) ?_
 rintro _ w2 ⟨b2, rfl, x, i, G2⟩
 refine qm rfl<|qd 25 rfl<|qv rfl (Qb Ho rfl) ?_
 have B9 := (j.gr G2)
 refine qv rfl (Qd (v := vp0_1) Hk rfl B9 rfl) ?_
 have Y1 := Gr.trans G1 G2
 have k := (f.gr Y1)
 refine qv rfl (Zo (l := p0.Labels) (c := Xn.cs) Tryz.underlying48 rfl k)<|qv rfl (Va (a := (p0.Labels.length : Int)) (b := 100) rfl rfl)<|qp rfl (Qm rfl) (fun c1 => ?_) (fun c1 => ?_)
 · replace hm := iT c1 hm
   refine qk rfl<|qk rfl<|qk rfl<|qk rfl<|qk rfl<|qm rfl<|qm rfl<|qk rfl<|qk rfl<|qk rfl<|qk rfl<|qk rfl<|qm rfl<|qm rfl<|qk rfl<|qk rfl<|qk rfl<|qk rfl<|qm rfl<|qm rfl<|Qa<|Qo ?_
   have m := ((Gr.refl w).trans Y1)
   cases hm
   refine ⟨_, _, rfl, Qt rfl (Qg rfl), ?_⟩
   exact ⟨rfl, m⟩
 replace hm := iF c1 hm
 refine qv rfl (Qb Yl rfl)<|qv rfl (Qb Wg rfl)<|qv rfl (Qd (v := vp1_2) Wh rfl i rfl) ?_
 have n := (g.gr Y1)
 refine qv rfl (Zo (l := p1.Head.Items) (c := Zd.cs) Tryz.underlying33 rfl n)<|qv rfl (Va (a := (p1.Head.Items.length : Int)) (b := 100) rfl rfl)<|qm rfl<|qp rfl (Qm rfl) (fun c2 => ?_) (fun c2 => ?_)
 · replace hm := iT c2 hm
   refine qk rfl<|qk rfl<|qk rfl<|qk rfl<|qk rfl<|qm rfl<|qm rfl<|qk rfl<|qk rfl<|qk rfl<|qk rfl<|qm rfl<|qm rfl<|Qa<|Qo ?_
   have o := ((Gr.refl w).trans Y1)
   cases hm
   refine ⟨_, _, rfl, Qt rfl (Qg rfl), ?_⟩
   exact ⟨rfl, o⟩
 replace hm := iF c2 hm
 refine qv rfl (Qb Yl rfl)<|qv rfl (Qb Yw rfl)<|qv rfl (Qd (v := vp1_4) Yx rfl i rfl) ?_
 have p := (h.gr Y1)
 refine qv rfl (Zo (l := p1.Head.Points) (c := Qu.cs) Tryz.underlying34 rfl p)<|qv rfl (Va (a := (p1.Head.Points.length : Int)) (b := 50) rfl rfl)<|qm rfl<|qp rfl (Qm rfl) (fun c3 => ?_) (fun c3 => ?_)
 · replace hm := iT c3 hm
   refine qk rfl<|qk rfl<|qk rfl<|qk rfl<|qm rfl<|qm rfl<|Qa<|Qo ?_
   have q := ((Gr.refl w).trans Y1)
   cases hm
   refine ⟨_, _, rfl, Qt rfl (Qg rfl), ?_⟩
   exact ⟨rfl, q⟩
 replace hm := iF c3 hm
 refine qv rfl (Qb Gc rfl)<|qv rfl (Qd (v := vp1_39) Hj rfl i rfl) ?_
 have s := (d.gr Y1)
 refine qv rfl (Zo (l := p1.Data) (c := Xq) Tryz.underlying32 rfl s)<|qv rfl (Va (a := (p1.Data.length : Int)) (b := 1000) rfl rfl)<|qm rfl<|qm rfl<|Qa<|Qo ?_
 have t := ((Gr.refl w).trans Y1)
 cases hm
 refine ⟨_, _, rfl, Qt rfl (Qg rfl), ?_⟩
 exact ⟨rfl, t⟩
theorem Qny {p0 vp0_1 zp0_1 gp0_1 op0_1 r} (hm : Ir p0 = some r) {w : World} (a : Rd w zp0_1 gp0_1 op0_1 18 vp0_1 (p0.Secret.Labels.map Xn.cs)) :
    Calls Tryz.prog 14 [.agg (Qw.cs p0 vp0_1).toArray].toArray w fun e w' => ∃ v, e = .returned v ∧ (∃ ur0_1 zr0_1 gr0_1, v = .agg (Qw.cs r ur0_1).toArray ∧ Qn w' zr0_1 gr0_1 72 18 ur0_1 (r.Secret.Labels.map Xn.cs) ∧ Zm (zr0_1 = 0 ∨ w.heap.size ≤ gr0_1) ∧ Gr w w') := by
 unfold Ir at hm
 refine Xe 11 Tryz.func14 rfl rfl rfl<|qs 2 rfl<|qe rfl (Qy (cs := Qw.cs p0 vp0_1) rfl rfl) ?_
 rintro _ w1 ⟨b1, rfl, C, g, G1⟩
 have F := g.lt
 refine qe rfl (Xh (cs := Qw.cs (Qw.mk (Qq.mk 0 [] (Qu.mk 0#64 0#64)) 0 (Zp.mk (Xg.mk false 0 k0) (Xg.mk false 0 k0))) (.slice none 0 0)) Gm rfl) ?_
 rintro _ w2 ⟨b2, rfl, D, h, G2⟩
 have G := h.lt
 refine qd 8 rfl<|qe rfl (Ve ([] : List Xn) Xn.cs Qpd rfl rfl (Kx rfl) rfl rfl rfl) ?_
 rintro H w3 ⟨b, E, n, G3⟩
 have z6 := G3.size
 refine qv rfl (Qb Pp rfl)<|qv rfl (Qb Ho rfl) ?_
 have B8 := ((g.gr G2).gr G3)
 refine qv rfl (Qd (v := vp0_1) Hk rfl B8 rfl) ?_
 have B9 := (((a.gr G1).gr G2).gr G3)
 obtain ⟨l1, o, hm⟩ := Qc hm
 refine qe rfl (Vl (l := ([] : List Xn)) (m := p0.Secret.Labels) (c := Xn.cs) Qhh rfl rfl n B9 o (by decide)) ?_
 rintro i w4 ⟨p, q, j, d, I, f⟩
 refine qv rfl (Qb Pp rfl)<|qv rfl (Qb Ho rfl) ?_
 have s := (B8.ka d (Qk ((.inr Qj) : 1 = 0 ∨ b ≠ b1)))
 refine qe rfl (Hn (cs' := Qw.cs (Qw.mk (Qq.mk p0.Secret.Receiver l1 p0.Secret.Share) p0.Ahead p0.Slots) i) (Hk).siz rfl rfl (Qn.oneB j) s rfl rfl) ?_
 rintro _ w5 ⟨t, M5⟩
 refine qd 2 rfl<|qv rfl (Qp Zr rfl t rfl) ?_
 have u := (((h.gr G3).ka d (Qk ((.inr Qj) : 1 = 0 ∨ b ≠ b2))).md M5)
 have k := (j.md M5 (Hl f (.inr Qj)))
 refine qe rfl (Qx Zr rfl rfl (Qw.cs_ones _ _ (Qn.oneB k)) u rfl rfl) ?_
 rintro _ w6 ⟨y, M6⟩
 refine Qa<|Qo ?_
 have z := (k.md M6 (Hl f (.inr Qj)))
 have B := (((((((Gr.refl w).trans G1).trans G2).trans G3).ka d (Qk ((.inr Qj) : 1 = 0 ∨ w.heap.size ≤ b))).md M5).md M6)
 cases hm
 refine ⟨_, _, rfl, Qt rfl (Xr Zr rfl y rfl), ?_⟩
 exact ⟨i, p, q, rfl, z, ⟨(Jg (A := (fun x => w.heap.size ≤ x)) f (.inr Qj))⟩, B⟩
theorem Xfb {p0 p1 vp0_1 zp0_1 gp0_1 op0_1 vp1_1 zp1_1 gp1_1 op1_1 r} (hm : Qgg p0 p1 = some r) {w : World} (d : Rd w zp0_1 gp0_1 op0_1 18 vp0_1 (p0.Labels.map Xn.cs)) (f : Rd w zp1_1 gp1_1 op1_1 18 vp1_1 (p1.Labels.map Xn.cs)) :
    Calls Tryz.prog 68 [.agg (Qq.cs p0 vp0_1).toArray, .agg (Qq.cs p1 vp1_1).toArray].toArray w fun e w' => ∃ v, e = .returned v ∧ (v = .bool r ∧ Gr w w') := by
 unfold Qgg at hm
 refine Xe 45 Tryz.func68 rfl rfl rfl<|qs 3 rfl<|qe rfl (Qy (cs := Qq.cs p0 vp0_1) rfl rfl) ?_
 rintro _ w1 ⟨b1, rfl, G, n, G1⟩
 refine qe rfl (Qy (cs := Qq.cs p1 vp1_1) rfl rfl) ?_
 rintro _ w2 ⟨b2, rfl, H, g, G2⟩
 refine qm rfl<|Qa<|Qe ?_
 have Y1 := Gr.trans G1 G2
 have X7 := ((Gr.refl w).trans Y1)
 refine qj (β := Bool) (rg 6 21) (fun a1 => [(26, .bool a1)]) (fun a1 wr => (Qcn p0 p1 a1 = some r) ∧ Kz [] w2 wr) ?_ ?_
 · refine qg 21 rfl<|qv rfl (Qb Cb rfl) ?_
   have j := (n.gr G2)
   refine qv rfl (Qd (v := .int .i64 p0.Receiver) Qv rfl j rfl)<|qv rfl (Qb Cb rfl)<|qv rfl (Qd (v := .int .i64 p1.Receiver) Qv rfl g rfl)<|qv rfl (Jw (a := p0.Receiver) (b := p1.Receiver) rfl rfl)<|qp rfl (Qm rfl) (fun c4 => ?_) (fun c4 => ?_)
   · replace hm := iT c4 hm
     refine qk rfl<|qk rfl<|qk rfl<|qk rfl<|qk rfl<|qm rfl<|qm rfl<|qk rfl<|qk rfl<|qk rfl<|qk rfl<|qk rfl<|qk rfl<|qk rfl<|qm rfl<|Qh ?_
     exact ⟨rfl, true, Qf, hm, Qz⟩
   replace hm := iF c4 hm
   refine qv rfl (Qb Na rfl)<|qv rfl (Zy (vs := Qu.cs p0.Share) Vk rfl j rfl rfl)<|qv rfl (Qb Na rfl)<|qv rfl (Zy (vs := Qu.cs p1.Share) Vk rfl g rfl rfl)<|qv rfl (Gk (cf := Qu.cs) (a := p0.Share) (b := p1.Share) Xax rfl rfl rfl rfl (fun h => Qu.cs_inj h))<|qm rfl<|qp rfl (Qm rfl) (fun c5 => ?_) (fun c5 => ?_)
   · replace hm := iT c5 hm
     refine qk rfl<|qk rfl<|qk rfl<|qk rfl<|qk rfl<|qk rfl<|qk rfl<|qm rfl<|Qh ?_
     exact ⟨rfl, true, Qf, hm, Qz⟩
   replace hm := iF c5 hm
   refine qv rfl (Qb Ho rfl)<|qv rfl (Qd (v := vp0_1) Hk rfl j rfl) ?_
   have y := (d.gr Y1)
   refine qv rfl (Zo (l := p0.Labels) (c := Xn.cs) Tryz.underlying48 rfl y)<|qv rfl (Qb Ho rfl)<|qv rfl (Qd (v := vp1_1) Hk rfl g rfl) ?_
   have z := (f.gr Y1)
   refine qv rfl (Zo (l := p1.Labels) (c := Xn.cs) Tryz.underlying48 rfl z)<|qv rfl (Jw (a := (p0.Labels.length : Int)) (b := (p1.Labels.length : Int)) rfl rfl)<|qm rfl<|Qh ?_
   exact ⟨rfl, (decide ((p0.Labels.length : Int) ≠ (p1.Labels.length : Int))), Qf, hm, Qz⟩
 clear hm; rintro a1 w3 ⟨hm, K3⟩
 unfold Qcn at hm
 refine Xj rfl (fun c1 => ?_) (fun c1 => ?_)
 · replace hm := Xx c1 hm
   refine qs 1 rfl<|qm rfl<|qb ?_
   have X9 := (X7.kz K3)
   cases hm
   refine ⟨_, _, rfl, Qt rfl (Qg rfl), ?_⟩
   exact ⟨rfl, X9⟩
 replace hm := Xw c1 hm
 refine qu<|Qe<|qs 1 rfl<|qm rfl<|Qa<|Xi ?_
 have o := (X7.kz K3)
 have A := ((d.gr Y1).kz K3)
 have B := ((f.gr Y1).kz K3)
 refine Zq (α := Nat × Int) ([4, 5] ++ rg 27 18) (fun ⟨n2, a3⟩ => [(4, .bool false), (5, .int .i64 a3)]) (fun ⟨n2, a3⟩ wr => (Qr (Qco p0 p1) n2 a3 = some r) ∧ Kz [] w3 wr) (fun ⟨n2, a3⟩ => n2) ⟨Xb, 0⟩ ?_ ?_ ?_
 · exact Qf
 · exact ⟨hm, Kz.refl _ _⟩
 clear hm; rintro ⟨n2, a3⟩ w4 ⟨hm, K4⟩
 have hb := Zx hm; clear hm; obtain ⟨n2, rfl, hm⟩ := hb
 generalize m : Qr (Qco p0 p1) n2 = I at hm
 unfold Qco at hm
 try dsimp only at hm
 refine Qe<|qs 5 rfl<|qm rfl<|qv rfl (Qb Ho rfl) ?_
 have p := (((n.gr G2).kz K3).kz K4)
 refine qv rfl (Qd (v := vp0_1) Hk rfl p rfl) ?_
 have q := (A.kz K4)
 refine qv rfl (Zo (l := p0.Labels) (c := Xn.cs) Tryz.underlying48 rfl q)<|qv rfl (Zc (a := a3) (b := (p0.Labels.length : Int)) rfl rfl)<|Qa<|Zu rfl (fun c2 => ?_) (fun c2 => ?_)
 · replace hm := iF c2 hm
   refine Zl<|Xk<|Xk<|Zk<|Xl<|qs 1 rfl<|qm rfl<|Qa<|Qo ?_
   have C := (o.kz K4)
   cases hm
   refine ⟨_, _, rfl, Qt rfl (Qg rfl), ?_⟩
   exact ⟨rfl, C⟩
 replace hm := iT c2 hm
 refine qu<|Qe<|Xi<|Qe<|dw [([])] [] (.leaf [(0,10),(1,10),(2,10),(3,10),(4,10),(5,10),(6,10),(7,10),(8,10),(9,10),(10,10)]) ?_
 intro w5 G5 J
 refine Zj<|dh 0 rfl rfl (fun w hS => Qb Ho rfl) ?_
 have D := (p.gr G5)
 refine dh 0 rfl rfl (fun w hS => Qd (v := vp0_1) Hk rfl (Bx.kp D hS) rfl)<|dm 0 rfl rfl ?_
 obtain ⟨y4, s, hm⟩ := Qc hm
 have t := (q.gr G5)
 refine dh 0 rfl rfl (fun w hS => Jm (i := a3) Tryz.underlying48 (Hs).siz rfl (Rd.kp t hS) rfl s)<|dh 0 rfl rfl (fun w hS => Hc Hs rfl (Rd.kp t hS) s (by first | rfl | omega))<|dh 0 rfl rfl (fun w hS => Qb Ho rfl) ?_
 have E := (((g.kz K3).kz K4).gr G5)
 refine dh 0 rfl rfl (fun w hS => Qd (v := vp1_1) Hk rfl (Bx.kp E hS) rfl)<|dm 0 rfl rfl ?_
 obtain ⟨y5, u, hm⟩ := Qc hm
 have x := ((B.kz K4).gr G5)
 refine dh 0 rfl rfl (fun w hS => Jm (i := a3) Tryz.underlying48 (Hs).siz rfl (Rd.kp x hS) rfl u)<|dh 0 rfl rfl (fun w hS => Hc Hs rfl (Rd.kp x hS) u (by first | rfl | omega))<|dh 0 rfl rfl (fun w hS => Gk (cf := Xn.cs) (a := y4) (b := y5) Xaz rfl rfl rfl rfl (fun h => Xn.cs_inj h))<|Qa<|Xj rfl (fun c3 => ?_) (fun c3 => ?_)
 · replace hm := iT c3 hm
   refine qs 1 rfl<|qm rfl<|Qa<|Qo<|Zz<|Zf<|Zf<|Zz<|Zf ?_
   have F := ((o.kz K4).trans G5)
   cases hm
   refine ⟨_, _, rfl, Qt rfl (Qg rfl), ?_⟩
   exact ⟨rfl, F⟩
 replace hm := iF c3 hm
 refine Vi<|Xy<|Xl<|qg 3 rfl<|qm rfl<|qv rfl (Zg (k := .i64) (a := a3) (b := 1) rfl rfl)<|qm rfl<|Qh ?_
 have K_21 : Kz [] w3 w5 := (K4.gr G5)
 subst m
 exact ⟨rfl, ⟨n2, Qi (a3 + 1)⟩, Qf, ⟨hm, K_21⟩, Nat.lt_succ_self _⟩
theorem Qnw {p0 p1 vp0_1 zp0_1 gp0_1 op0_1 vp1_1 zp1_1 gp1_1 op1_1 r} (hm : Iq p0 p1 = some r) {w : World} (c : Rd w zp0_1 gp0_1 op0_1 18 vp0_1 (p0.Secret.Labels.map Xn.cs)) (d : Rd w zp1_1 gp1_1 op1_1 18 vp1_1 (p1.Secret.Labels.map Xn.cs)) :
    Calls Tryz.prog 19 [.agg (Qw.cs p0 vp0_1).toArray, .agg (Qw.cs p1 vp1_1).toArray].toArray w fun e w' => ∃ v, e = .returned v ∧ (v = .bool r ∧ Gr w w') := by
 unfold Iq at hm
 refine Xe 24 Tryz.func19 rfl rfl rfl<|qs 3 rfl<|qe rfl (Qy (cs := Qw.cs p0 vp0_1) rfl rfl) ?_
 rintro _ w1 ⟨b1, rfl, o, j, G1⟩
 refine qe rfl (Qy (cs := Qw.cs p1 vp1_1) rfl rfl) ?_
 rintro _ w2 ⟨b2, rfl, p, f, G2⟩
 refine qm rfl<|qd 20 rfl<|qv rfl (Qb Pp rfl) ?_
 have B7 := (j.gr G2)
 refine qv rfl (Zy (vs := Qq.cs p0.Secret vp0_1) Jc rfl B7 rfl rfl)<|qv rfl (Qb Pp rfl)<|qv rfl (Zy (vs := Qq.cs p1.Secret vp1_1) Jc rfl f rfl rfl) ?_
 have Y1 := Gr.trans G1 G2
 have B8 := (c.gr Y1)
 have B9 := (d.gr Y1)
 obtain ⟨x1, k, hm⟩ := Qc hm
 refine qe rfl (eC Xa6 rfl (Xfb k B8 B9)) ?_
 rintro _ w3 ⟨rfl, G3⟩
 refine Jh rfl (Qm rfl) (fun c1 => ?_) (fun c1 => ?_)
 · replace hm := Xw c1 hm
   refine qk rfl<|qk rfl<|qk rfl<|qk rfl<|qk rfl<|qm rfl<|qm rfl<|qk rfl<|qk rfl<|qk rfl<|qk rfl<|qk rfl<|qm rfl<|qm rfl<|Qa<|Qo ?_
   have l := (((Gr.refl w).trans Y1).trans G3)
   cases hm
   refine ⟨_, _, rfl, Qt rfl (Qg rfl), ?_⟩
   exact ⟨rfl, l⟩
 replace hm := Xx c1 hm
 refine qv rfl (Qb Nb rfl) ?_
 have g := (B7.gr G3)
 refine qv rfl (Qd (v := .int .i64 p0.Ahead) Qv rfl g rfl)<|qv rfl (Qb Nb rfl) ?_
 have i := (f.gr G3)
 refine qv rfl (Qd (v := .int .i64 p1.Ahead) Qv rfl i rfl)<|qv rfl (Jr (a := p0.Ahead) (b := p1.Ahead) rfl rfl)<|qm rfl<|Jh rfl (Qm rfl) (fun c2 => ?_) (fun c2 => ?_)
 · replace hm := iF c2 hm
   refine qk rfl<|qk rfl<|qk rfl<|qk rfl<|qk rfl<|qm rfl<|qm rfl<|Qa<|Qo ?_
   have m := (((Gr.refl w).trans Y1).trans G3)
   cases hm
   refine ⟨_, _, rfl, Qt rfl (Qg rfl), ?_⟩
   exact ⟨rfl, m⟩
 replace hm := iT c2 hm
 refine qv rfl (Qb Sa rfl)<|qv rfl (Zy (vs := Zp.cs p0.Slots) Ov rfl g rfl rfl)<|qv rfl (Qb Sa rfl)<|qv rfl (Zy (vs := Zp.cs p1.Slots) Ov rfl i rfl rfl)<|qv rfl (Ss (cf := Zp.cs) (a := p0.Slots) (b := p1.Slots) Xay rfl rfl rfl rfl (fun h => Zp.cs_inj h))<|qm rfl<|qm rfl<|Qa<|Qo ?_
 have n := (((Gr.refl w).trans Y1).trans G3)
 cases hm
 refine ⟨_, _, rfl, Qt rfl (Qg rfl), ?_⟩
 exact ⟨rfl, n⟩
theorem Xae {p0 r} (hm : Bs p0 = some r) {w : World} :
    Calls Tryz.prog 30 [.agg (Qs.cs p0).toArray].toArray w fun e w' => ∃ v, e = .returned v ∧ (v = .int .i64 r ∧ Gr w w') := by
 unfold Bs at hm
 refine Xe 11 Tryz.func30 rfl rfl rfl<|qs 2 rfl<|qe rfl (Qy (cs := Qs.cs p0) rfl rfl) ?_
 rintro _ w1 ⟨b1, rfl, aq, A, G1⟩
 have aF := A.lt
 refine qm rfl<|qd 8 rfl<|qv rfl (Qp Zw rfl A rfl)<|Qob 33 Tryz.func85 rfl rfl rfl Qm3 rfl rfl rfl rfl rfl<|qs 3 rfl<|qe rfl (Qy (cs := Qs.cs p0) rfl rfl) ?_
 rintro _ w2 ⟨b2, rfl, ar, s, G2⟩
 have aG := s.lt
 refine qe rfl (Xh (cs := [.nilFunc, .nilFunc, .nilFunc, .nilFunc]) Ww rfl) ?_
 rintro _ w3 ⟨b3, rfl, au, f, G3⟩
 have aH := f.lt
 refine qm rfl<|qd 3 rfl<|qv rfl (Zv (cs := [.func (.func 128) #[] #[], .func (.func 129) #[] #[], .func (.func 130) #[] #[], .func (.func 131) #[] #[]]) Gp rfl rfl)<|qe rfl (Xh (cs := [.nilFunc, .nilFunc, .nilFunc, .nilFunc]) Ww rfl) ?_
 rintro _ w4 ⟨b4, rfl, av, B, G4⟩
 have aI := B.lt
 refine qe rfl (Qx Je rfl rfl rfl B rfl rfl) ?_
 rintro _ w5 ⟨t, M5⟩
 have z9 := M5.size
 refine qd 8 rfl<|qv rfl (Zv (cs := [.nilFunc, .nilFunc, .nilFunc, .nilFunc]) Gp rfl rfl)<|qv rfl (Zy (vs := [.func (.func 128) #[] #[], .func (.func 129) #[] #[], .func (.func 130) #[] #[], .func (.func 131) #[] #[]]) Je rfl t rfl rfl)<|qv rfl (Zy (vs := [.func (.func 128) #[] #[], .func (.func 129) #[] #[], .func (.func 130) #[] #[], .func (.func 131) #[] #[]]) Je rfl t rfl rfl)<|qv rfl (Zy (vs := [.func (.func 128) #[] #[], .func (.func 129) #[] #[], .func (.func 130) #[] #[], .func (.func 131) #[] #[]]) Je rfl t rfl rfl)<|qv rfl (Zv (cs := [.func (.func 132) #[] #[], .func (.func 133) #[] #[], .func (.func 134) #[] #[], .func (.func 135) #[] #[]]) Gp rfl rfl)<|qv rfl (Qok (cs := [.nilFunc, .nilFunc, .nilFunc, .nilFunc, .func (.func 128) #[] #[], .func (.func 129) #[] #[], .func (.func 130) #[] #[], .func (.func 131) #[] #[], .func (.func 128) #[] #[], .func (.func 129) #[] #[], .func (.func 130) #[] #[], .func (.func 131) #[] #[], .func (.func 128) #[] #[], .func (.func 129) #[] #[], .func (.func 130) #[] #[], .func (.func 131) #[] #[], .func (.func 132) #[] #[], .func (.func 133) #[] #[], .func (.func 134) #[] #[], .func (.func 135) #[] #[]]) Qko rfl rfl)<|qe rfl (Xh (cs := [.nilFunc, .nilFunc, .nilFunc, .nilFunc, .nilFunc, .nilFunc, .nilFunc, .nilFunc, .nilFunc, .nilFunc, .nilFunc, .nilFunc, .nilFunc, .nilFunc, .nilFunc, .nilFunc, .nilFunc, .nilFunc, .nilFunc, .nilFunc]) Qkj rfl) ?_
 rintro _ w6 ⟨b6, rfl, aw, C, G6⟩
 have ax := C.lt
 refine qe rfl (Qx Qkm rfl rfl rfl C rfl rfl) ?_
 rintro _ w7 ⟨D, M7⟩
 have aJ := M7.size
 refine Qa<|Qe ?_
 have u := ((((((((Gr.refl w).trans G1).trans G2).trans G3).trans G4).md M5).trans G6).md M7)
 refine qj (β := Bool) (rg 14 9) (fun a1 => [(22, .bool a1)]) (fun a1 wr => (Ly p0 a1 = some r) ∧ Kz [] w7 wr) ?_ ?_
 · refine qg 9 rfl<|qv rfl (Qb Yg rfl) ?_
   have E := (((((s.gr G3).gr G4).md M5).gr G6).md M7)
   refine qv rfl (Qd (v := bv p0.Kind) Xs rfl E rfl)<|qv rfl (Qh6 (p := p0.Kind) (q := 1#8) rfl rfl)<|qp rfl (Qm rfl) (fun c4 => ?_) (fun c4 => ?_)
   · replace hm := iT c4 hm
     refine qk rfl<|qk rfl<|qk rfl<|qk rfl<|qm rfl<|Qh ?_
     exact ⟨rfl, true, Qf, hm, Qz⟩
   replace hm := iF c4 hm
   refine qv rfl (Qb Yg rfl)<|qv rfl (Qd (v := bv p0.Kind) Xs rfl E rfl)<|qv rfl (Qh1 Tg rfl)<|qv rfl (Kl (a := Xf p0.Kind) (b := 5) rfl rfl)<|qm rfl<|Qh ?_
   exact ⟨rfl, (decide ((5 : Int) ≤ Xf p0.Kind)), Qf, hm, Qz⟩
 clear hm; rintro a1 w8 ⟨hm, K8⟩
 have aK := K8.size
 unfold Ly at hm
 refine Xj rfl (fun c1 => ?_) (fun c1 => ?_)
 · replace hm := Xx c1 hm
   refine qs 3 rfl<|qv rfl (Zv (cs := [.nilFunc, .nilFunc, .nilFunc, .nilFunc]) Gp rfl rfl) ?_
   have O := (((((f.gr G4).md M5).gr G6).md M7).kz K8)
   refine qe rfl (Qx Je rfl rfl rfl O rfl rfl) ?_
   rintro _ w9 ⟨P, M9⟩
   have aL := M9.size
   refine qm rfl<|qb<|⟨_, _, rfl, Zb rfl (Xr Je rfl P rfl) (Qg rfl), ?_⟩
   refine qm rfl<|qm rfl<|qm rfl<|qe rfl (Xh (cs := [.nilFunc, .nilFunc, .nilFunc, .nilFunc]) Ww rfl) ?_
   rintro _ aM ⟨aN, rfl, Q, F, R⟩
   refine qe rfl (Qx Je rfl rfl rfl F rfl rfl) ?_
   rintro _ aO ⟨ay, S⟩
   refine qm rfl<|qd 2 rfl<|qm rfl<|qm rfl<|Qa<|Qo ?_
   have T := ((((u.kz K8).md M9).trans R).md S)
   cases hm
   refine ⟨_, _, rfl, Qt rfl (Qg rfl), ?_⟩
   exact ⟨rfl, T⟩
 replace hm := Xw c1 hm
 refine qu<|qs 6 rfl<|qv rfl (Qb Yg rfl) ?_
 have x := ((((((s.gr G3).gr G4).md M5).gr G6).md M7).kz K8)
 refine qv rfl (Qd (v := bv p0.Kind) Xs rfl x rfl) ?_
 by_cases c2 : (Xf p0.Kind = 1 ∨ Xf p0.Kind = 2 ∨ Xf p0.Kind = 3)
 · replace hm := Ez c2 hm
   refine qv rfl (Qd3 Tryz.underlying228 (Je).siz rfl rfl (by omega)) ?_
   have U := (D.kz K8)
   refine qv rfl (Zy (vs := [.func (.func 128) #[] #[], .func (.func 129) #[] #[], .func (.func 130) #[] #[], .func (.func 131) #[] #[]]) Je rfl U (by rcases c2 with h | h | h <;> rw [h] <;> rfl) rfl)<|qe rfl (Xh (cs := [.nilFunc, .nilFunc, .nilFunc, .nilFunc]) Ww rfl) ?_
   rintro _ aP ⟨aQ, rfl, V, n, y⟩
   have az := n.lt
   refine qe rfl (Qx Je rfl rfl rfl n rfl rfl) ?_
   rintro _ aR ⟨G, g⟩
   have aS := g.size
   refine Qa<|Qe<|dw [([b3])] [] (.leaf [(0,10),(1,10),(2,10),(3,10),(4,0),(5,0),(6,10)]) ?_
   intro W i aA
   refine Zj ?_
   have H := (G.gr i)
   refine dh 0 rfl rfl (fun w hS => Zy (vs := [.func (.func 128) #[] #[], .func (.func 129) #[] #[], .func (.func 130) #[] #[], .func (.func 131) #[] #[]]) Je rfl (Bx.kp H hS) rfl rfl)<|dh 0 rfl rfl (fun w hS => Qb Qb4 rfl)<|dh 0 rfl rfl (fun w hS => Qd (v := .func (.func 128) #[] #[]) Ag rfl (Bx.kp H hS) rfl) ?_
   have X := (((x.gr y).md g).gr i)
   refine dh 0 rfl rfl (fun w hS => Qp Zw rfl (Bx.kp X hS) rfl) ?_
   obtain ⟨x2, Y, hm⟩ := Qc hm
   refine qz [] rfl (Dg Qlh rfl rfl (Qky Y)) ⟨fun _ => Qj, trivial⟩ ?_
   rintro _ aT ⟨rfl, c⟩
   have aU := c.size
   refine kG c ?_
   have Z := (((((((((f.gr G4).md M5).gr G6).md M7).kz K8).gr y).md g).gr i).gr c)
   refine qz [(1, b3)] rfl (Qx Je rfl rfl rfl Z rfl rfl) ⟨fun _ => Qj, trivial⟩ ?_
   rintro _ aV ⟨I, j⟩
   have aW := j.size
   refine kM j ?_
   have aa := (((Kp.refl ([b3]) W).gr c).md j)
   refine dn 0 rfl rfl aa<|Qa<|Qo<|⟨_, _, rfl, Zb rfl (Xr Je rfl I rfl) (Qg rfl), ?_⟩
   refine qm rfl<|qm rfl<|qm rfl<|qe rfl (Xh (cs := [.nilFunc, .nilFunc, .nilFunc, .nilFunc]) Ww rfl) ?_
   rintro _ aX ⟨aY, rfl, ab, J, ac⟩
   refine qe rfl (Qx Je rfl rfl rfl J rfl rfl) ?_
   rintro _ aZ ⟨aB, ad⟩
   refine qm rfl<|qd 2 rfl<|qm rfl<|qm rfl<|Qa<|Qo ?_
   have ae := ((((((((u.kz K8).trans y).md g).trans i).trans c).md j).trans ac).md ad)
   cases hm
   refine ⟨_, _, rfl, Qt rfl (Qg rfl), ?_⟩
   exact ⟨rfl, ae⟩
 replace hm := Ey c2 hm
 by_cases c3 : (Xf p0.Kind = 4)
 · replace hm := Ez c3 hm
   refine qv rfl (Qd3 Tryz.underlying228 (Je).siz rfl rfl (by omega)) ?_
   have af := (D.kz K8)
   refine qv rfl (Zy (vs := [.func (.func 132) #[] #[], .func (.func 133) #[] #[], .func (.func 134) #[] #[], .func (.func 135) #[] #[]]) Je rfl af (by rw [c3]; rfl) rfl)<|qe rfl (Xh (cs := [.nilFunc, .nilFunc, .nilFunc, .nilFunc]) Ww rfl) ?_
   rintro _ a0 ⟨a2, rfl, ag, o, z⟩
   have aC := o.lt
   refine qe rfl (Qx Je rfl rfl rfl o rfl rfl) ?_
   rintro _ a3 ⟨K, k⟩
   have a4 := k.size
   refine Qa<|Qe<|dw [([b3])] [] (.leaf [(0,10),(1,10),(2,10),(3,10),(4,0),(5,0),(6,10)]) ?_
   intro ah l aD
   refine Zj ?_
   have L := (K.gr l)
   refine dh 0 rfl rfl (fun w hS => Zy (vs := [.func (.func 132) #[] #[], .func (.func 133) #[] #[], .func (.func 134) #[] #[], .func (.func 135) #[] #[]]) Je rfl (Bx.kp L hS) rfl rfl)<|dh 0 rfl rfl (fun w hS => Qb Qb4 rfl)<|dh 0 rfl rfl (fun w hS => Qd (v := .func (.func 132) #[] #[]) Ag rfl (Bx.kp L hS) rfl) ?_
   have ai := (((x.gr z).md k).gr l)
   refine dh 0 rfl rfl (fun w hS => Qp Zw rfl (Bx.kp ai hS) rfl) ?_
   obtain ⟨x3, aj, hm⟩ := Qc hm
   refine qz [] rfl (Dg Qli rfl rfl (Qna aj)) ⟨fun _ => Qj, trivial⟩ ?_
   rintro _ a5 ⟨rfl, d⟩
   have a6 := d.size
   refine kG d ?_
   have ak := (((((((((f.gr G4).md M5).gr G6).md M7).kz K8).gr z).md k).gr l).gr d)
   refine qz [(1, b3)] rfl (Qx Je rfl rfl rfl ak rfl rfl) ⟨fun _ => Qj, trivial⟩ ?_
   rintro _ a7 ⟨M, m⟩
   have a8 := m.size
   refine kM m ?_
   have al := (((Kp.refl ([b3]) ah).gr d).md m)
   refine dn 0 rfl rfl al<|Qa<|Qo<|⟨_, _, rfl, Zb rfl (Xr Je rfl M rfl) (Qg rfl), ?_⟩
   refine qm rfl<|qm rfl<|qm rfl<|qe rfl (Xh (cs := [.nilFunc, .nilFunc, .nilFunc, .nilFunc]) Ww rfl) ?_
   rintro _ a9 ⟨ba, rfl, am, N, an⟩
   refine qe rfl (Qx Je rfl rfl rfl N rfl rfl) ?_
   rintro _ bb ⟨aE, ao⟩
   refine qm rfl<|qd 2 rfl<|qm rfl<|qm rfl<|Qa<|Qo ?_
   have ap := ((((((((u.kz K8).trans z).md k).trans l).trans d).md m).trans an).md ao)
   cases hm
   refine ⟨_, _, rfl, Qt rfl (Qg rfl), ?_⟩
   exact ⟨rfl, ap⟩
 replace hm := Ey c3 hm
 cases hm
theorem Xab {p0 r} (hm : Lw p0 = some r) {w : World} :
    Calls Tryz.prog 26 [.agg (Za.cs p0).toArray].toArray w fun e w' => ∃ v, e = .returned v ∧ (v = .int .i64 r ∧ Gr w w') := by
 unfold Lw at hm
 refine Xe 78 Tryz.func26 rfl rfl rfl<|qs 2 rfl<|qe rfl (Qy (cs := Za.cs p0) rfl rfl) ?_
 rintro _ w1 ⟨b1, rfl, h, c, G1⟩
 refine qm rfl<|Qa<|Qe ?_
 have X3 := ((Gr.refl w).trans G1)
 refine qj (β := Bool) (rg 4 31) (fun a1 => [(34, .bool a1)]) (fun a1 wr => (Lx p0 a1 = some r) ∧ Kz [] w1 wr) ?_ ?_
 · refine qg 31 rfl<|qv rfl (Qb Hv rfl)<|qv rfl (Qd (v := .int .i64 p0.Word) Qv rfl c rfl)<|qv rfl (Zc (a := p0.Word) (b := 1) rfl rfl)<|qp rfl (Qm rfl) (fun c7 => ?_) (fun c7 => ?_)
   · replace hm := iT c7 hm
     refine qk rfl<|qk rfl<|qk rfl<|qm rfl<|qm rfl<|qk rfl<|qk rfl<|qk rfl<|qk rfl<|qk rfl<|qm rfl<|qm rfl<|qk rfl<|qk rfl<|qk rfl<|qk rfl<|qk rfl<|qk rfl<|qm rfl<|qm rfl<|qk rfl<|qk rfl<|qk rfl<|qk rfl<|qk rfl ?_
     refine qk rfl<|qm rfl<|Qh ?_
     exact ⟨rfl, true, Qf, hm, Qz⟩
   replace hm := iF c7 hm
   refine qv rfl (Qb Hv rfl)<|qv rfl (Qd (v := .int .i64 p0.Word) Qv rfl c rfl)<|qv rfl (Va (a := p0.Word) (b := 1000) rfl rfl)<|qm rfl<|qp rfl (Qm rfl) (fun c8 => ?_) (fun c8 => ?_)
   · replace hm := iT c8 hm
     refine qk rfl<|qk rfl<|qk rfl<|qk rfl<|qk rfl<|qm rfl<|qm rfl<|qk rfl<|qk rfl<|qk rfl<|qk rfl<|qk rfl<|qk rfl<|qm rfl<|qm rfl<|qk rfl<|qk rfl<|qk rfl<|qk rfl<|qk rfl<|qk rfl<|qm rfl<|Qh ?_
     exact ⟨rfl, true, Qf, hm, Qz⟩
   replace hm := iF c8 hm
   refine qv rfl (Qb Dx rfl)<|qv rfl (Qd (v := .int .i64 p0.Epoch) Qv rfl c rfl)<|qv rfl (Qb Hv rfl)<|qv rfl (Qd (v := .int .i64 p0.Word) Qv rfl c rfl)<|qv rfl (Zc (a := p0.Epoch) (b := p0.Word) rfl rfl)<|qm rfl<|qp rfl (Qm rfl) (fun c9 => ?_) (fun c9 => ?_)
   · replace hm := iT c9 hm
     refine qk rfl<|qk rfl<|qk rfl<|qk rfl<|qk rfl<|qk rfl<|qm rfl<|qm rfl<|qk rfl<|qk rfl<|qk rfl<|qk rfl<|qk rfl<|qk rfl<|qm rfl<|Qh ?_
     exact ⟨rfl, true, Qf, hm, Qz⟩
   replace hm := iF c9 hm
   refine qv rfl (Qb Dx rfl)<|qv rfl (Qd (v := .int .i64 p0.Epoch) Qv rfl c rfl)<|qv rfl (Qb Hv rfl)<|qv rfl (Qd (v := .int .i64 p0.Word) Qv rfl c rfl)<|qv rfl (Wa (k := .i64) (a := 1000) (b := p0.Word) rfl rfl)<|qv rfl (Va (a := p0.Epoch) (b := Qi (1000 * p0.Word)) rfl rfl)<|qm rfl<|qp rfl (Qm rfl) (fun d => ?_) (fun d => ?_)
   · replace hm := iT d hm
     refine qk rfl<|qk rfl<|qk rfl<|qk rfl<|qk rfl<|qk rfl<|qm rfl<|Qh ?_
     exact ⟨rfl, true, Qf, hm, Qz⟩
   replace hm := iF d hm
   refine qv rfl (Qb Dx rfl)<|qv rfl (Qd (v := .int .i64 p0.Epoch) Qv rfl c rfl)<|qv rfl (Qb Hv rfl)<|qv rfl (Qd (v := .int .i64 p0.Word) Qv rfl c rfl) ?_
   obtain ⟨x3, f, hm⟩ := Qc hm
   refine qv rfl (Hm (a := p0.Epoch) (b := p0.Word) rfl rfl f)<|qv rfl (Jw (a := x3) (b := 0) rfl rfl)<|qm rfl<|Qh ?_
   exact ⟨rfl, (decide (x3 ≠ 0)), Qf, hm, Qz⟩
 clear hm; rintro a1 w2 ⟨hm, K2⟩
 unfold Lx at hm
 refine Xj rfl (fun c1 => ?_) (fun c1 => ?_)
 · replace hm := Xx c1 hm
   refine qs 1 rfl<|qm rfl<|qb ?_
   have X5 := (X3.kz K2)
   cases hm
   refine ⟨_, _, rfl, Qt rfl (Qg rfl), ?_⟩
   exact ⟨rfl, X5⟩
 replace hm := Xw c1 hm
 refine qu<|qs 4 rfl<|qv rfl (Qb Hv rfl) ?_
 have B6 := (c.kz K2)
 refine qv rfl (Qd (v := .int .i64 p0.Word) Qv rfl B6 rfl)<|qv rfl (Wa (k := .i64) (a := 3) (b := p0.Word) rfl rfl)<|qm rfl<|Qa<|Qe ?_
 have X7 := (X3.kz K2)
 refine qj (β := Bool) (rg 38 40) (fun a2 => [(77, .bool a2)]) (fun a2 wr => (Br a2 = some r) ∧ Kz [] w2 wr) ?_ ?_
 · refine qg 40 rfl<|qv rfl (Qb Eu rfl)<|qv rfl (Qd (v := .int .i64 p0.Early) Qv rfl B6 rfl)<|qv rfl (Qb Hf rfl)<|qv rfl (Qd (v := .int .i64 p0.Drift) Qv rfl B6 rfl)<|qv rfl (Qb Lc rfl)<|qv rfl (Qd (v := .int .i64 p0.Delay) Qv rfl B6 rfl)<|qv rfl (Xi5 rfl rfl rfl)<|qv rfl (Zc (a := Hh (Hh p0.Early p0.Drift) p0.Delay) (b := 0) rfl rfl)<|qp rfl (Qm rfl) (fun c3 => ?_) (fun c3 => ?_)
   · replace hm := iT c3 hm
     refine qk rfl<|qk rfl<|qk rfl<|qk rfl<|qm rfl<|qm rfl<|qk rfl<|qk rfl<|qk rfl<|qk rfl<|qm rfl<|qm rfl<|qk rfl<|qk rfl<|qk rfl<|qk rfl<|qk rfl<|qk rfl<|qk rfl<|qk rfl<|qm rfl<|qm rfl<|qk rfl<|qk rfl<|qk rfl ?_
     refine qk rfl<|qk rfl<|qk rfl<|qk rfl<|qk rfl<|qm rfl<|Qh ?_
     exact ⟨rfl, true, Qf, hm, Qz⟩
   replace hm := iF c3 hm
   refine qv rfl (Qb Hf rfl)<|qv rfl (Qd (v := .int .i64 p0.Drift) Qv rfl B6 rfl)<|qm rfl<|qv rfl (Kl (a := p0.Drift) (b := Qi (3 * p0.Word)) rfl rfl)<|qm rfl<|qp rfl (Qm rfl) (fun c4 => ?_) (fun c4 => ?_)
   · replace hm := iT c4 hm
     refine qk rfl<|qk rfl<|qk rfl<|qk rfl<|qm rfl<|qm rfl<|qk rfl<|qk rfl<|qk rfl<|qk rfl<|qk rfl<|qk rfl<|qk rfl<|qk rfl<|qm rfl<|qm rfl<|qk rfl<|qk rfl<|qk rfl<|qk rfl<|qk rfl<|qk rfl<|qk rfl<|qk rfl<|qm rfl ?_
     refine Qh ?_
     exact ⟨rfl, true, Qf, hm, Qz⟩
   replace hm := iF c4 hm
   refine qv rfl (Qb Lc rfl)<|qv rfl (Qd (v := .int .i64 p0.Delay) Qv rfl B6 rfl)<|qm rfl<|qv rfl (Kl (a := p0.Delay) (b := Qi (3 * p0.Word)) rfl rfl)<|qm rfl<|qp rfl (Qm rfl) (fun c5 => ?_) (fun c5 => ?_)
   · replace hm := iT c5 hm
     refine qk rfl<|qk rfl<|qk rfl<|qk rfl<|qk rfl<|qk rfl<|qk rfl<|qk rfl<|qm rfl<|qm rfl<|qk rfl<|qk rfl<|qk rfl<|qk rfl<|qk rfl<|qk rfl<|qk rfl<|qk rfl<|qm rfl<|Qh ?_
     exact ⟨rfl, true, Qf, hm, Qz⟩
   replace hm := iF c5 hm
   refine qv rfl (Qb Hf rfl)<|qv rfl (Qd (v := .int .i64 p0.Drift) Qv rfl B6 rfl)<|qv rfl (Wa (k := .i64) (a := 2) (b := p0.Drift) rfl rfl)<|qv rfl (Qb Lc rfl)<|qv rfl (Qd (v := .int .i64 p0.Delay) Qv rfl B6 rfl)<|qv rfl (Zg (k := .i64) (a := Qi (2 * p0.Drift)) (b := p0.Delay) rfl rfl)<|qm rfl<|qv rfl (Kl (a := Qi ((Qi (2 * p0.Drift)) + p0.Delay)) (b := Qi (3 * p0.Word)) rfl rfl)<|qm rfl<|qp rfl (Qm rfl) (fun c6 => ?_) (fun c6 => ?_)
   · replace hm := iT c6 hm
     refine qk rfl<|qk rfl<|qk rfl<|qk rfl<|qk rfl<|qk rfl<|qk rfl<|qk rfl<|qm rfl<|Qh ?_
     exact ⟨rfl, true, Qf, hm, Qz⟩
   replace hm := iF c6 hm
   refine qv rfl (Qb Eu rfl)<|qv rfl (Qd (v := .int .i64 p0.Early) Qv rfl B6 rfl)<|qv rfl (Qb Dx rfl)<|qv rfl (Qd (v := .int .i64 p0.Epoch) Qv rfl B6 rfl)<|qv rfl (Qb Lc rfl)<|qv rfl (Qd (v := .int .i64 p0.Delay) Qv rfl B6 rfl)<|qv rfl (Vn (k := .i64) (a := p0.Epoch) (b := p0.Delay) rfl rfl)<|qv rfl (Va (a := p0.Early) (b := Qi (p0.Epoch - p0.Delay)) rfl rfl)<|qm rfl<|Qh ?_
   exact ⟨rfl, (decide (Qi (p0.Epoch - p0.Delay) < p0.Early)), Qf, hm, Qz⟩
 clear hm; rintro a2 w3 ⟨hm, K3⟩
 unfold Br at hm
 refine Xj rfl (fun c2 => ?_) (fun c2 => ?_)
 · replace hm := Xx c2 hm
   refine qs 1 rfl<|qm rfl<|qb ?_
   have X9 := (X7.kz K3)
   cases hm
   refine ⟨_, _, rfl, Qt rfl (Qg rfl), ?_⟩
   exact ⟨rfl, X9⟩
 replace hm := Xw c2 hm
 refine qu<|qs 1 rfl<|qm rfl<|Qa<|Qo ?_
 have g := (X7.kz K3)
 cases hm
 refine ⟨_, _, rfl, Qt rfl (Qg rfl), ?_⟩
 exact ⟨rfl, g⟩
theorem Qr4 {p0 p1 r} (hm : Qay p0 p1 = some r) {w : World} :
    Calls Tryz.prog 56 [.agg (Qs.cs p0).toArray, .agg (Za.cs p1).toArray].toArray w fun e w' => ∃ v, e = .returned v ∧ (v = .int .i64 r ∧ Gr w w') := by
 unfold Qay at hm
 refine Xe 13 Tryz.func56 rfl rfl rfl<|qs 3 rfl<|qe rfl (Qy (cs := Qs.cs p0) rfl rfl) ?_
 rintro _ w1 ⟨b1, rfl, i, c, G1⟩
 refine qe rfl (Qy (cs := Za.cs p1) rfl rfl) ?_
 rintro _ w2 ⟨b2, rfl, j, d, G2⟩
 refine qm rfl<|Qa<|Qe<|qs 3 rfl ?_
 have B5 := (c.gr G2)
 refine qv rfl (Qp Zw rfl B5 rfl) ?_
 obtain ⟨x1, f, hm⟩ := Qc hm
 refine qe rfl (eC Qz5 rfl (Xae f)) ?_
 rintro _ w3 ⟨rfl, G3⟩
 refine qm rfl<|qd 2 rfl<|qm rfl<|qv rfl (Jw (a := x1) (b := 0) rfl rfl)<|Qa<|Xj rfl (fun c1 => ?_) (fun c1 => ?_)
 · replace hm := iT c1 hm
   refine qs 2 rfl<|qm rfl<|qm rfl<|qb ?_
   have X7 := ((((Gr.refl w).trans G1).trans G2).trans G3)
   cases hm
   refine ⟨_, _, rfl, Qt rfl (Qg rfl), ?_⟩
   exact ⟨rfl, X7⟩
 replace hm := iF c1 hm
 refine qu<|qs 3 rfl ?_
 have B8 := (d.gr G3)
 refine qv rfl (Qp Yt rfl B8 rfl) ?_
 obtain ⟨x2, g, hm⟩ := Qc hm
 refine qe rfl (eC Qyv rfl (Xab g)) ?_
 rintro _ w4 ⟨rfl, G4⟩
 refine qm rfl<|Qa<|Qo ?_
 have h := (((((Gr.refl w).trans G1).trans G2).trans G3).trans G4)
 cases hm
 refine ⟨_, _, rfl, Qt rfl (Qg rfl), ?_⟩
 exact ⟨rfl, h⟩
theorem Xag {p0 p1 p2 r} (hm : Qed p0 p1 p2 = some r) {w : World} :
    Calls Tryz.prog 35 [kv p0, .agg (Qs.cs p1).toArray, .int .i64 p2].toArray w fun e w' => ∃ v, e = .returned v ∧ (∃ ur0_1 zr0_1 gr0_1, v = .tuple [.agg (Qq.cs r.1 ur0_1).toArray, .int .i64 r.2].toArray ∧ Qn w' zr0_1 gr0_1 72 18 ur0_1 (r.1.Labels.map Xn.cs) ∧ Zm (zr0_1 = 0 ∨ w.heap.size ≤ gr0_1) ∧ Gr w w') := by
 unfold Qed at hm
 refine Xe 27 Tryz.func35 rfl rfl rfl<|qs 4 rfl<|qe rfl (Qy (cs := kb p0) rfl rfl) ?_
 rintro _ w1 ⟨b1, rfl, bg, P, G1⟩
 have bC := P.lt
 refine qe rfl (Qy (cs := Qs.cs p1) rfl rfl) ?_
 rintro _ w2 ⟨b2, rfl, bh, W, G2⟩
 have bD := W.lt
 refine qe rfl (Xh (cs := Qq.cs (Qq.mk 0 [] (Qu.mk 0#64 0#64)) (.slice none 0 0)) Gl rfl) ?_
 rintro _ w3 ⟨b3, rfl, bi, z, G3⟩
 have bE := z.lt
 refine qm rfl<|qd 8 rfl ?_
 have B7 := (W.gr G3)
 refine qv rfl (Qp Zw rfl B7 rfl)<|Qob 33 Tryz.func85 rfl rfl rfl Qm3 rfl rfl rfl rfl rfl<|qs 3 rfl<|qe rfl (Qy (cs := Qs.cs p1) rfl rfl) ?_
 rintro _ w4 ⟨b4, rfl, bj, Q, G4⟩
 have bF := Q.lt
 refine qe rfl (Xh (cs := [.nilFunc, .nilFunc, .nilFunc, .nilFunc]) Ww rfl) ?_
 rintro _ w5 ⟨b5, rfl, bk, I, G5⟩
 have bl := I.lt
 refine qm rfl<|qd 3 rfl<|qv rfl (Zv (cs := [.func (.func 128) #[] #[], .func (.func 129) #[] #[], .func (.func 130) #[] #[], .func (.func 131) #[] #[]]) Gp rfl rfl)<|qe rfl (Xh (cs := [.nilFunc, .nilFunc, .nilFunc, .nilFunc]) Ww rfl) ?_
 rintro _ w6 ⟨b6, rfl, bm, X, G6⟩
 have bo := X.lt
 refine qe rfl (Qx Je rfl rfl rfl X rfl rfl) ?_
 rintro _ w7 ⟨R, M7⟩
 have bG := M7.size
 refine qd 8 rfl<|qv rfl (Zv (cs := [.nilFunc, .nilFunc, .nilFunc, .nilFunc]) Gp rfl rfl)<|qv rfl (Zy (vs := [.func (.func 128) #[] #[], .func (.func 129) #[] #[], .func (.func 130) #[] #[], .func (.func 131) #[] #[]]) Je rfl R rfl rfl)<|qv rfl (Zy (vs := [.func (.func 128) #[] #[], .func (.func 129) #[] #[], .func (.func 130) #[] #[], .func (.func 131) #[] #[]]) Je rfl R rfl rfl)<|qv rfl (Zy (vs := [.func (.func 128) #[] #[], .func (.func 129) #[] #[], .func (.func 130) #[] #[], .func (.func 131) #[] #[]]) Je rfl R rfl rfl)<|qv rfl (Zv (cs := [.func (.func 132) #[] #[], .func (.func 133) #[] #[], .func (.func 134) #[] #[], .func (.func 135) #[] #[]]) Gp rfl rfl)<|qv rfl (Qok (cs := [.nilFunc, .nilFunc, .nilFunc, .nilFunc, .func (.func 128) #[] #[], .func (.func 129) #[] #[], .func (.func 130) #[] #[], .func (.func 131) #[] #[], .func (.func 128) #[] #[], .func (.func 129) #[] #[], .func (.func 130) #[] #[], .func (.func 131) #[] #[], .func (.func 128) #[] #[], .func (.func 129) #[] #[], .func (.func 130) #[] #[], .func (.func 131) #[] #[], .func (.func 132) #[] #[], .func (.func 133) #[] #[], .func (.func 134) #[] #[], .func (.func 135) #[] #[]]) Qko rfl rfl)<|qe rfl (Xh (cs := [.nilFunc, .nilFunc, .nilFunc, .nilFunc, .nilFunc, .nilFunc, .nilFunc, .nilFunc, .nilFunc, .nilFunc, .nilFunc, .nilFunc, .nilFunc, .nilFunc, .nilFunc, .nilFunc, .nilFunc, .nilFunc, .nilFunc, .nilFunc]) Qkj rfl) ?_
 rintro _ w8 ⟨b8, rfl, bp, Y, G8⟩
 have bq := Y.lt
 refine qe rfl (Qx Qkm rfl rfl rfl Y rfl rfl) ?_
 rintro _ w9 ⟨Z, M9⟩
 have bH := M9.size
 refine Qa<|Qe ?_
 have H := ((((((((((Gr.refl w).trans G1).trans G2).trans G3).trans G4).trans G5).trans G6).md M7).trans G8).md M9)
 refine qj (β := Bool) (rg 14 9) (fun a1 => [(22, .bool a1)]) (fun a1 wr => (Qas p0 p1 p2 a1 = some r) ∧ Kz [] w9 wr) ?_ ?_
 · refine qg 9 rfl<|qv rfl (Qb Yg rfl) ?_
   have Y1 := Gr.trans G5 G6
   have aa := ((((Q.gr Y1).md M7).gr G8).md M9)
   refine qv rfl (Qd (v := bv p1.Kind) Xs rfl aa rfl)<|qv rfl (Qh6 (p := p1.Kind) (q := 1#8) rfl rfl)<|qp rfl (Qm rfl) (fun c6 => ?_) (fun c6 => ?_)
   · replace hm := iT c6 hm
     refine qk rfl<|qk rfl<|qk rfl<|qk rfl<|qm rfl<|Qh ?_
     exact ⟨rfl, true, Qf, hm, Qz⟩
   replace hm := iF c6 hm
   refine qv rfl (Qb Yg rfl)<|qv rfl (Qd (v := bv p1.Kind) Xs rfl aa rfl)<|qv rfl (Qh1 Tg rfl)<|qv rfl (Kl (a := Xf p1.Kind) (b := 5) rfl rfl)<|qm rfl<|Qh ?_
   exact ⟨rfl, (decide ((5 : Int) ≤ Xf p1.Kind)), Qf, hm, Qz⟩
 clear hm; rintro a1 bI ⟨hm, c⟩
 have bJ := c.size
 unfold Qas at hm
 refine Xj rfl (fun c1 => ?_) (fun c1 => ?_)
 · replace hm := Xx c1 hm
   refine qs 3 rfl<|qv rfl (Zv (cs := [.nilFunc, .nilFunc, .nilFunc, .nilFunc]) Gp rfl rfl) ?_
   have az := (((((I.gr G6).md M7).gr G8).md M9).kz c)
   refine qe rfl (Qx Je rfl rfl rfl az rfl rfl) ?_
   rintro _ bK ⟨ab, S⟩
   have bL := S.size
   refine qm rfl<|qb<|⟨_, _, rfl, Zb rfl (Xr Je rfl ab rfl) (Qg rfl), ?_⟩
   refine qm rfl<|qm rfl<|qm rfl<|qe rfl (Xh (cs := [.nilFunc, .nilFunc, .nilFunc, .nilFunc]) Ww rfl) ?_
   rintro _ bM ⟨bN, rfl, aA, ac, ad⟩
   refine qe rfl (Qx Je rfl rfl rfl ac rfl rfl) ?_
   rintro _ bO ⟨br, ae⟩
   refine qm rfl<|Qa<|Qe<|qs 2 rfl<|qm rfl<|qv rfl (Jw (a := 2) (b := 0) rfl rfl)<|Qa<|Ry rfl<|qs 4 rfl<|qv rfl (Zv (cs := Qq.cs (Qq.mk 0 [] (Qu.mk 0#64 0#64)) (.slice none 0 0)) Da rfl rfl)<|qm rfl ?_
   have Y2 := Gr.trans (Gr.trans G4 G5) G6
   have aB := ((((((((z.gr Y2).md M7).gr G8).md M9).kz c).md S).gr ad).md ae)
   refine qe rfl (Qx Jc rfl rfl (Qq.cs_ones _ _ rfl) aB rfl rfl) ?_
   rintro _ bP ⟨af, aC⟩
   refine qm rfl<|qb ?_
   have aD := (((((H.kz c).md S).trans ad).md ae).md aC)
   cases hm
   refine ⟨_, _, rfl, Zb rfl (Xr Jc rfl af rfl) (Qg rfl), ?_⟩
   exact ⟨(.slice none 0 0), 0, 0, rfl, (Ji _ 0 72 18), ⟨.inl rfl⟩, aD⟩
 replace hm := Xw c1 hm
 refine qu<|qs 6 rfl<|qv rfl (Qb Yg rfl) ?_
 have Y3 := Gr.trans G5 G6
 have T := (((((Q.gr Y3).md M7).gr G8).md M9).kz c)
 refine qv rfl (Qd (v := bv p1.Kind) Xs rfl T rfl) ?_
 by_cases c2 : (Xf p1.Kind = 1 ∨ Xf p1.Kind = 2 ∨ Xf p1.Kind = 3)
 · replace hm := Ez c2 hm
   refine qv rfl (Qd3 Tryz.underlying228 (Je).siz rfl rfl (by omega)) ?_
   have aE := (Z.kz c)
   refine qv rfl (Zy (vs := [.func (.func 128) #[] #[], .func (.func 129) #[] #[], .func (.func 130) #[] #[], .func (.func 131) #[] #[]]) Je rfl aE (by rcases c2 with h | h | h <;> rw [h] <;> rfl) rfl)<|qe rfl (Xh (cs := [.nilFunc, .nilFunc, .nilFunc, .nilFunc]) Ww rfl) ?_
   rintro _ bQ ⟨bR, rfl, aF, L, n⟩
   have bs := L.lt
   refine qe rfl (Qx Je rfl rfl rfl L rfl rfl) ?_
   rintro _ bS ⟨ag, j⟩
   have bT := j.size
   refine Qa<|Qe<|dw [([b5])] [] (.leaf [(0,10),(1,10),(2,10),(3,10),(4,0),(5,0),(6,10)]) ?_
   intro aG U bu
   refine Zj ?_
   have ah := (ag.gr U)
   refine dh 0 rfl rfl (fun w hS => Zy (vs := [.func (.func 128) #[] #[], .func (.func 129) #[] #[], .func (.func 130) #[] #[], .func (.func 131) #[] #[]]) Je rfl (Bx.kp ah hS) rfl rfl)<|dh 0 rfl rfl (fun w hS => Qb Qb4 rfl)<|dh 0 rfl rfl (fun w hS => Qd (v := .func (.func 128) #[] #[]) Ag rfl (Bx.kp ah hS) rfl) ?_
   have aH := (((T.gr n).md j).gr U)
   refine dh 0 rfl rfl (fun w hS => Qp Zw rfl (Bx.kp aH hS) rfl) ?_
   obtain ⟨x2, aI, hm⟩ := Qc hm
   refine qz [] rfl (Dg Qlh rfl rfl (Qky aI)) ⟨fun _ => Qj, trivial⟩ ?_
   rintro _ bU ⟨rfl, J⟩
   have bV := J.size
   refine kG J ?_
   have Y4 := Gr.trans U J
   have aJ := ((((((((I.gr G6).md M7).gr G8).md M9).kz c).gr n).md j).gr Y4)
   refine qz [(1, b5)] rfl (Qx Je rfl rfl rfl aJ rfl rfl) ⟨fun _ => Qj, trivial⟩ ?_
   rintro _ bW ⟨ai, k⟩
   have bX := k.size
   refine kM k ?_
   have aK := (((Kp.refl ([b5]) aG).gr J).md k)
   refine dn 0 rfl rfl aK<|Qa<|Qo<|⟨_, _, rfl, Zb rfl (Xr Je rfl ai rfl) (Qg rfl), ?_⟩
   refine qm rfl<|qm rfl<|qm rfl<|qe rfl (Xh (cs := [.nilFunc, .nilFunc, .nilFunc, .nilFunc]) Ww rfl) ?_
   rintro _ bY ⟨bZ, rfl, aL, M, s⟩
   have b0 := s.size
   have bx := M.lt
   refine qe rfl (Qx Je rfl rfl rfl M rfl rfl) ?_
   rintro _ b7 ⟨aj, t⟩
   have b9 := t.size
   refine qm rfl<|Qa<|Qe<|qs 2 rfl<|qm rfl<|qv rfl (Jw (a := x2) (b := 0) rfl rfl)<|Qa<|Xj rfl (fun c3 => ?_) (fun c3 => ?_)
   · replace hm := iT c3 hm
     refine qs 4 rfl<|qv rfl (Zv (cs := Qq.cs (Qq.mk 0 [] (Qu.mk 0#64 0#64)) (.slice none 0 0)) Da rfl rfl)<|qm rfl ?_
     have Y5 := Gr.trans G4 Y3
     have aM := (((((((((((z.gr Y5).md M7).gr G8).md M9).kz c).gr n).md j).gr Y4).md k).gr s).md t)
     refine qe rfl (Qx Jc rfl rfl (Qq.cs_ones _ _ rfl) aM rfl rfl) ?_
     rintro _ ca ⟨ak, aN⟩
     refine qm rfl<|qb ?_
     have aO := ((((((((H.kz c).trans n).md j).trans Y4).md k).trans s).md t).md aN)
     cases hm
     refine ⟨_, _, rfl, Zb rfl (Xr Jc rfl ak rfl) (Qg rfl), ?_⟩
     exact ⟨(.slice none 0 0), 0, 0, rfl, (Ji _ 0 72 18), ⟨.inl rfl⟩, aO⟩
   replace hm := iF c3 hm
   refine qu<|qs 10 rfl<|qv rfl (Qb Qrg rfl)<|qv rfl (Qd (v := .func (.func 129) #[] #[]) Qn3 rfl aj rfl) ?_
   have Y6 := Gr.trans (Gr.trans (Gr.trans G2 G3) G4) Y3
   have aP := (((((((((((P.gr Y6).md M7).gr G8).md M9).kz c).gr n).md j).gr Y4).md k).gr s).md t)
   refine qv rfl (Qp Ql rfl aP rfl) ?_
   have Y7 := Gr.trans G4 Y3
   have aQ := (((((((((((B7.gr Y7).md M7).gr G8).md M9).kz c).gr n).md j).gr Y4).md k).gr s).md t)
   refine qv rfl (Qp Zw rfl aQ rfl)<|qm rfl ?_
   obtain ⟨x3, aR, hm⟩ := Qc hm
   refine qe rfl (Dg Qy3 rfl rfl (Qx0 aR)) ?_
   rintro _ cb ⟨B, C, D, rfl, d, f, al⟩
   refine qm rfl<|qm rfl ?_
   have aS := ((((((((((((z.gr Y7).md M7).gr G8).md M9).kz c).gr n).md j).gr Y4).md k).gr s).md t).gr al)
   refine qe rfl (Qx Jc rfl rfl (Qq.cs_ones _ _ (Qn.oneB d)) aS rfl rfl) ?_
   rintro _ cc ⟨am, an⟩
   refine qm rfl<|Qa<|Qo ?_
   have aT := (d.md an (Jv f))
   have aU := (((((((((H.kz c).trans n).md j).trans Y4).md k).trans s).md t).trans al).md an)
   cases hm
   refine ⟨_, _, rfl, Zb rfl (Xr Jc rfl am rfl) (Qg rfl), ?_⟩
   exact ⟨B, C, D, rfl, aT, ⟨(Jf (A := (fun x => w.heap.size ≤ x)) f)⟩, aU⟩
 replace hm := Ey c2 hm
 by_cases c4 : (Xf p1.Kind = 4)
 · replace hm := Ez c4 hm
   refine qv rfl (Qd3 Tryz.underlying228 (Je).siz rfl rfl (by omega)) ?_
   have aV := (Z.kz c)
   refine qv rfl (Zy (vs := [.func (.func 132) #[] #[], .func (.func 133) #[] #[], .func (.func 134) #[] #[], .func (.func 135) #[] #[]]) Je rfl aV (by rw [c4]; rfl) rfl)<|qe rfl (Xh (cs := [.nilFunc, .nilFunc, .nilFunc, .nilFunc]) Ww rfl) ?_
   rintro _ cd ⟨ce, rfl, aW, N, o⟩
   have bz := N.lt
   refine qe rfl (Qx Je rfl rfl rfl N rfl rfl) ?_
   rintro _ cf ⟨ao, l⟩
   have cg := l.size
   refine Qa<|Qe<|dw [([b5])] [] (.leaf [(0,10),(1,10),(2,10),(3,10),(4,0),(5,0),(6,10)]) ?_
   intro aX V bA
   refine Zj ?_
   have ap := (ao.gr V)
   refine dh 0 rfl rfl (fun w hS => Zy (vs := [.func (.func 132) #[] #[], .func (.func 133) #[] #[], .func (.func 134) #[] #[], .func (.func 135) #[] #[]]) Je rfl (Bx.kp ap hS) rfl rfl)<|dh 0 rfl rfl (fun w hS => Qb Qb4 rfl)<|dh 0 rfl rfl (fun w hS => Qd (v := .func (.func 132) #[] #[]) Ag rfl (Bx.kp ap hS) rfl) ?_
   have aY := (((T.gr o).md l).gr V)
   refine dh 0 rfl rfl (fun w hS => Qp Zw rfl (Bx.kp aY hS) rfl) ?_
   obtain ⟨x4, aZ, hm⟩ := Qc hm
   refine qz [] rfl (Dg Qli rfl rfl (Qna aZ)) ⟨fun _ => Qj, trivial⟩ ?_
   rintro _ ch ⟨rfl, K⟩
   have ci := K.size
   refine kG K ?_
   have Y8 := Gr.trans V K
   have a0 := ((((((((I.gr G6).md M7).gr G8).md M9).kz c).gr o).md l).gr Y8)
   refine qz [(1, b5)] rfl (Qx Je rfl rfl rfl a0 rfl rfl) ⟨fun _ => Qj, trivial⟩ ?_
   rintro _ cj ⟨aq, m⟩
   have ck := m.size
   refine kM m ?_
   have a2 := (((Kp.refl ([b5]) aX).gr K).md m)
   refine dn 0 rfl rfl a2<|Qa<|Qo<|⟨_, _, rfl, Zb rfl (Xr Je rfl aq rfl) (Qg rfl), ?_⟩
   refine qm rfl<|qm rfl<|qm rfl<|qe rfl (Xh (cs := [.nilFunc, .nilFunc, .nilFunc, .nilFunc]) Ww rfl) ?_
   rintro _ cl ⟨cm, rfl, a3, O, u⟩
   have cn := u.size
   have bB := O.lt
   refine qe rfl (Qx Je rfl rfl rfl O rfl rfl) ?_
   rintro _ co ⟨ar, y⟩
   have cp := y.size
   refine qm rfl<|Qa<|Qe<|qs 2 rfl<|qm rfl<|qv rfl (Jw (a := x4) (b := 0) rfl rfl)<|Qa<|Xj rfl (fun c5 => ?_) (fun c5 => ?_)
   · replace hm := iT c5 hm
     refine qs 4 rfl<|qv rfl (Zv (cs := Qq.cs (Qq.mk 0 [] (Qu.mk 0#64 0#64)) (.slice none 0 0)) Da rfl rfl)<|qm rfl ?_
     have Y9 := Gr.trans G4 Y3
     have a4 := (((((((((((z.gr Y9).md M7).gr G8).md M9).kz c).gr o).md l).gr Y8).md m).gr u).md y)
     refine qe rfl (Qx Jc rfl rfl (Qq.cs_ones _ _ rfl) a4 rfl rfl) ?_
     rintro _ cq ⟨au, a5⟩
     refine qm rfl<|qb ?_
     have a6 := ((((((((H.kz c).trans o).md l).trans Y8).md m).trans u).md y).md a5)
     cases hm
     refine ⟨_, _, rfl, Zb rfl (Xr Jc rfl au rfl) (Qg rfl), ?_⟩
     exact ⟨(.slice none 0 0), 0, 0, rfl, (Ji _ 0 72 18), ⟨.inl rfl⟩, a6⟩
   replace hm := iF c5 hm
   refine qu<|qs 10 rfl<|qv rfl (Qb Qrg rfl)<|qv rfl (Qd (v := .func (.func 133) #[] #[]) Qn3 rfl ar rfl) ?_
   have a7 := Gr.trans (Gr.trans (Gr.trans G2 G3) G4) Y3
   have a8 := (((((((((((P.gr a7).md M7).gr G8).md M9).kz c).gr o).md l).gr Y8).md m).gr u).md y)
   refine qv rfl (Qp Ql rfl a8 rfl) ?_
   have av := Gr.trans G4 Y3
   have a9 := (((((((((((B7.gr av).md M7).gr G8).md M9).kz c).gr o).md l).gr Y8).md m).gr u).md y)
   refine qv rfl (Qp Zw rfl a9 rfl)<|qm rfl ?_
   obtain ⟨x5, ba, hm⟩ := Qc hm
   refine qe rfl (Dg Qy6 rfl rfl (Xdv ba)) ?_
   rintro _ cr ⟨E, F, G, rfl, g, i, aw⟩
   refine qm rfl<|qm rfl ?_
   have bb := ((((((((((((z.gr av).md M7).gr G8).md M9).kz c).gr o).md l).gr Y8).md m).gr u).md y).gr aw)
   refine qe rfl (Qx Jc rfl rfl (Qq.cs_ones _ _ (Qn.oneB g)) bb rfl rfl) ?_
   rintro _ ct ⟨ax, ay⟩
   refine qm rfl<|Qa<|Qo ?_
   have bd := (g.md ay (Jv i))
   have bf := (((((((((H.kz c).trans o).md l).trans Y8).md m).trans u).md y).trans aw).md ay)
   cases hm
   refine ⟨_, _, rfl, Zb rfl (Xr Jc rfl ax rfl) (Qg rfl), ?_⟩
   exact ⟨E, F, G, rfl, bd, ⟨(Jf (A := (fun x => w.heap.size ≤ x)) i)⟩, bf⟩
 replace hm := Ey c4 hm
 cases hm
theorem Xaf {p0 p1 p2 p3 p4 r} (hm : Qeb p0 p1 p2 p3 p4 = some r) {w : World} :
    Calls Tryz.prog 15 [kv p0, .agg (Qs.cs p1).toArray, .agg (Za.cs p2).toArray, .int .i64 p3, .int .i64 p4].toArray w fun e w' => ∃ v, e = .returned v ∧ (∃ ur0_1 zr0_1 gr0_1, v = .tuple [.agg (Qw.cs r.1 ur0_1).toArray, .int .i64 r.2].toArray ∧ Qn w' zr0_1 gr0_1 72 18 ur0_1 (r.1.Secret.Labels.map Xn.cs) ∧ Zm (zr0_1 = 0 ∨ w.heap.size ≤ gr0_1) ∧ Gr w w') := by
 unfold Qeb at hm
 refine Xe 48 Tryz.func15 rfl rfl rfl<|qs 5 rfl<|qe rfl (Qy (cs := kb p0) rfl rfl) ?_
 rintro _ w1 ⟨b1, rfl, V, m, G1⟩
 have Z := m.lt
 refine qe rfl (Qy (cs := Qs.cs p1) rfl rfl) ?_
 rintro _ w2 ⟨b2, rfl, W, n, G2⟩
 have aa := n.lt
 refine qe rfl (Qy (cs := Za.cs p2) rfl rfl) ?_
 rintro _ w3 ⟨b3, rfl, X, o, G3⟩
 have ab := o.lt
 refine qe rfl (Xh (cs := Qw.cs (Qw.mk (Qq.mk 0 [] (Qu.mk 0#64 0#64)) 0 (Zp.mk (Xg.mk false 0 k0) (Xg.mk false 0 k0))) (.slice none 0 0)) Gm rfl) ?_
 rintro _ w4 ⟨b4, rfl, Y, g, G4⟩
 have ac := g.lt
 refine qm rfl<|Qa<|Qe<|qs 4 rfl ?_
 have Y1 := Gr.trans G3 G4
 have B9 := (n.gr Y1)
 refine qv rfl (Qp Zw rfl B9 rfl) ?_
 have p := (o.gr G4)
 refine qv rfl (Qp Yt rfl p rfl) ?_
 obtain ⟨x1, E, hm⟩ := Qc hm
 refine qe rfl (eC Qqy rfl (Qr4 E)) ?_
 rintro _ w5 ⟨rfl, G5⟩
 have ad := G5.size
 refine qm rfl<|qd 2 rfl<|qm rfl<|qv rfl (Jw (a := x1) (b := 0) rfl rfl)<|Qa<|Xj rfl (fun c1 => ?_) (fun c1 => ?_)
 · replace hm := iT c1 hm
   refine qs 4 rfl<|qv rfl (Zv (cs := Qw.cs (Qw.mk (Qq.mk 0 [] (Qu.mk 0#64 0#64)) 0 (Zp.mk (Xg.mk false 0 k0) (Xg.mk false 0 k0))) (.slice none 0 0)) Ht rfl (by kernel_rfl))<|qm rfl ?_
   have F := (g.gr G5)
   refine qe rfl (Qx Zr rfl rfl (Qw.cs_ones _ _ rfl) F rfl rfl) ?_
   rintro _ w6 ⟨G, M6⟩
   refine qm rfl<|qb ?_
   have Y2 := Gr.trans (Gr.trans (Gr.trans G1 G2) Y1) G5
   have H := (((Gr.refl w).trans Y2).md M6)
   cases hm
   refine ⟨_, _, rfl, Zb rfl (Xr Zr rfl G rfl) (Qg rfl), ?_⟩
   exact ⟨(.slice none 0 0), 0, 0, rfl, (Ji _ 0 72 18), ⟨.inl rfl⟩, H⟩
 replace hm := iF c1 hm
 refine qu<|Qe ?_
 have Y3 := Gr.trans (Gr.trans (Gr.trans G1 G2) Y1) G5
 have k := ((Gr.refl w).trans Y3)
 refine qj (β := Bool) (rg 22 11) (fun a2 => [(32, .bool a2)]) (fun a2 wr => (Qaq p0 p1 p3 p4 a2 = some r) ∧ Kz [] w5 wr) ?_ ?_
 · refine qg 11 rfl<|qm rfl<|qv rfl (Qb Hf rfl) ?_
   have q := (p.gr G5)
   refine qv rfl (Qd (v := .int .i64 p2.Drift) Qv rfl q rfl)<|qv rfl (Qke (a := p2.Drift) rfl)<|qv rfl (Zc (a := p4) (b := Qi (-p2.Drift)) rfl rfl)<|qp rfl (Qm rfl) (fun c4 => ?_) (fun c4 => ?_)
   · replace hm := iT c4 hm
     refine qk rfl<|qk rfl<|qk rfl<|qk rfl<|qm rfl<|Qh ?_
     exact ⟨rfl, true, Qf, hm, Qz⟩
   replace hm := iF c4 hm
   refine qm rfl<|qv rfl (Qb Hf rfl)<|qv rfl (Qd (v := .int .i64 p2.Drift) Qv rfl q rfl)<|qv rfl (Va (a := p4) (b := p2.Drift) rfl rfl)<|qm rfl<|Qh ?_
   exact ⟨rfl, (decide (p2.Drift < p4)), Qf, hm, Qz⟩
 clear hm; rintro a2 w7 ⟨hm, K7⟩
 have ae := K7.size
 unfold Qaq at hm
 refine Xj rfl (fun c2 => ?_) (fun c2 => ?_)
 · replace hm := Xx c2 hm
   refine qs 3 rfl<|qv rfl (Zv (cs := Qw.cs (Qw.mk (Qq.mk 0 [] (Qu.mk 0#64 0#64)) 0 (Zp.mk (Xg.mk false 0 k0) (Xg.mk false 0 k0))) (.slice none 0 0)) Ht rfl (by kernel_rfl)) ?_
   have I := ((g.gr G5).kz K7)
   refine qe rfl (Qx Zr rfl rfl (Qw.cs_ones _ _ rfl) I rfl rfl) ?_
   rintro _ w8 ⟨J, M8⟩
   refine qm rfl<|qb ?_
   have K := ((k.kz K7).md M8)
   cases hm
   refine ⟨_, _, rfl, Zb rfl (Xr Zr rfl J rfl) (Qg rfl), ?_⟩
   exact ⟨(.slice none 0 0), 0, 0, rfl, (Ji _ 0 72 18), ⟨.inl rfl⟩, K⟩
 replace hm := Xw c2 hm
 refine qu<|qs 10 rfl ?_
 have Y4 := Gr.trans (Gr.trans G2 Y1) G5
 have L := ((m.gr Y4).kz K7)
 refine qv rfl (Qp Ql rfl L rfl) ?_
 have M := ((B9.gr G5).kz K7)
 refine qv rfl (Qp Zw rfl M rfl)<|qm rfl ?_
 obtain ⟨x3, N, hm⟩ := Qc hm
 refine qe rfl (eC Qzl rfl (Xag N)) ?_
 rintro _ w9 ⟨c, h, i, rfl, d, f, G9⟩
 have af := G9.size
 have s := d.lth
 refine qm rfl<|qm rfl<|qm rfl<|qe rfl (Xh (cs := Qq.cs (Qq.mk 0 [] (Qu.mk 0#64 0#64)) (.slice none 0 0)) Gl rfl) ?_
 rintro _ ag ⟨ah, rfl, O, t, l⟩
 have u := (d.gr l)
 refine qe rfl (Qx Jc rfl rfl (Qq.cs_ones _ _ (Qn.oneB u)) t rfl rfl) ?_
 rintro _ ai ⟨y, j⟩
 refine qm rfl<|Qa<|Qe<|qs 2 rfl<|qm rfl<|qv rfl (Jw (a := x3.2) (b := 0) rfl rfl)<|Qa<|Xj rfl (fun c3 => ?_) (fun c3 => ?_)
 · replace hm := iT c3 hm
   refine qs 4 rfl<|qv rfl (Zv (cs := Qw.cs (Qw.mk (Qq.mk 0 [] (Qu.mk 0#64 0#64)) 0 (Zp.mk (Xg.mk false 0 k0) (Xg.mk false 0 k0))) (.slice none 0 0)) Ht rfl (by kernel_rfl))<|qm rfl ?_
   have Y5 := Gr.trans G9 l
   have P := ((((g.gr G5).kz K7).gr Y5).md j)
   refine qe rfl (Qx Zr rfl rfl (Qw.cs_ones _ _ rfl) P rfl rfl) ?_
   rintro _ aj ⟨z, Q⟩
   refine qm rfl<|qb ?_
   have R := ((((k.kz K7).trans Y5).md j).md Q)
   cases hm
   refine ⟨_, _, rfl, Zb rfl (Xr Zr rfl z rfl) (Qg rfl), ?_⟩
   exact ⟨(.slice none 0 0), 0, 0, rfl, (Ji _ 0 72 18), ⟨.inl rfl⟩, R⟩
 replace hm := iF c3 hm
 refine qu<|qs 5 rfl<|qv rfl (Qp Jc rfl y rfl)<|qm rfl<|qv rfl (Zv (cs := Qw.cs (Qw.mk x3.1 p4 (Zp.mk (Xg.mk false 0 k0) (Xg.mk false 0 k0))) c) Ht rfl (Pq rfl rfl rfl (Pq rfl rfl rfl (by kernel_rfl)))) ?_
 have Y6 := Gr.trans G9 l
 have S := ((((g.gr G5).kz K7).gr Y6).md j)
 have B := (u.md j (Xd s))
 refine qe rfl (Qx Zr rfl rfl (Qw.cs_ones _ _ (Qn.oneB B)) S rfl rfl) ?_
 rintro _ ak ⟨C, D⟩
 refine qm rfl<|Qa<|Qo ?_
 have T := (B.md D (Jv f))
 have U := ((((k.kz K7).trans Y6).md j).md D)
 cases hm
 refine ⟨_, _, rfl, Zb rfl (Xr Zr rfl C rfl) (Qg rfl), ?_⟩
 exact ⟨c, h, i, rfl, T, ⟨(Jf (A := (fun x => w.heap.size ≤ x)) f)⟩, U⟩
theorem Qnv {p0 r} (hm : Ip p0 = some r) {w : World} :
    Calls Tryz.prog 98 [.agg (Qs.cs p0).toArray].toArray w fun e w' => ∃ v, e = .returned v ∧ (v = .int .i64 r ∧ Gr w w') := by
 unfold Ip at hm
 refine Xe 18 Tryz.func98 rfl rfl rfl<|qs 2 rfl<|qe rfl (Qy (cs := Qs.cs p0) rfl rfl) ?_
 rintro _ w1 ⟨b1, rfl, g, a, G1⟩
 refine qm rfl<|Qa<|Qe ?_
 have X3 := ((Gr.refl w).trans G1)
 refine qj (β := Bool) (rg 3 8) (fun a1 => [(10, .bool a1)]) (fun a1 wr => (Mk p0 a1 = some r) ∧ Kz [] w1 wr) ?_ ?_
 · refine qg 8 rfl<|qv rfl (Qb Yg rfl)<|qv rfl (Qd (v := bv p0.Kind) Xs rfl a rfl)<|qv rfl (Qvg (p := p0.Kind) (q := 1#8) rfl rfl)<|Jh rfl (Qm rfl) (fun c3 => ?_) (fun c3 => ?_)
   · replace hm := iF c3 hm
     refine qk rfl<|qk rfl<|qk rfl<|qm rfl<|Qh ?_
     exact ⟨rfl, false, Qf, hm, Qz⟩
   replace hm := iT c3 hm
   refine qv rfl (Qb Yg rfl)<|qv rfl (Qd (v := bv p0.Kind) Xs rfl a rfl)<|qv rfl (Qon (p := p0.Kind) (q := 3#8) rfl rfl)<|qm rfl<|Qh ?_
   exact ⟨rfl, (decide (p0.Kind ≤ 3#8)), Qf, hm, Qz⟩
 clear hm; rintro a1 w2 ⟨hm, K2⟩
 unfold Mk at hm
 refine Xj rfl (fun c1 => ?_) (fun c1 => ?_)
 · replace hm := Xx c1 hm
   refine qs 3 rfl ?_
   have B5 := (a.kz K2)
   refine qv rfl (Qp Zw rfl B5 rfl) ?_
   obtain ⟨x2, b, hm⟩ := Qc hm
   refine qe rfl (eC Qyb rfl (Xek b)) ?_
   rintro _ w3 ⟨rfl, G3⟩
   refine qm rfl<|qb ?_
   have X7 := ((X3.kz K2).trans G3)
   cases hm
   refine ⟨_, _, rfl, Qt rfl (Qg rfl), ?_⟩
   exact ⟨rfl, X7⟩
 replace hm := Xw c1 hm
 refine qu<|Qe<|qs 3 rfl<|qv rfl (Qb Yg rfl) ?_
 have B8 := (a.kz K2)
 refine qv rfl (Qd (v := bv p0.Kind) Xs rfl B8 rfl)<|qv rfl (Yz (p := p0.Kind) (q := 4#8) rfl rfl)<|Qa<|Zu rfl (fun c2 => ?_) (fun c2 => ?_)
 · replace hm := iF c2 hm
   refine qu<|qs 1 rfl<|qm rfl<|Qa<|Qo ?_
   have c := (X3.kz K2)
   cases hm
   refine ⟨_, _, rfl, Qt rfl (Qg rfl), ?_⟩
   exact ⟨rfl, c⟩
 replace hm := iT c2 hm
 refine qs 3 rfl<|qv rfl (Qp Zw rfl B8 rfl) ?_
 obtain ⟨x3, d, hm⟩ := Qc hm
 refine qe rfl (eC Qyc rfl (Xew d)) ?_
 rintro _ w4 ⟨rfl, G4⟩
 refine qm rfl<|qb ?_
 have f := ((X3.kz K2).trans G4)
 cases hm
 refine ⟨_, _, rfl, Qt rfl (Qg rfl), ?_⟩
 exact ⟨rfl, f⟩
theorem Xfg {p0 r} (hm : Rv p0 = some r) {w : World} :
    Calls Tryz.prog 114 [.agg (Za.cs p0).toArray].toArray w fun e w' => ∃ v, e = .returned v ∧ (v = .bool r ∧ Gr w w') := by
 unfold Rv at hm
 refine Xe 84 Tryz.func114 rfl rfl rfl<|qs 2 rfl<|qe rfl (Qy (cs := Za.cs p0) rfl rfl) ?_
 rintro _ w1 ⟨b1, rfl, m, c, G1⟩
 refine qm rfl<|Qa<|Qe ?_
 have X3 := ((Gr.refl w).trans G1)
 refine qj (β := Bool) (rg 3 31) (fun a1 => [(33, .bool a1)]) (fun a1 wr => (Sk p0 a1 = some r) ∧ Kz [] w1 wr) ?_ ?_
 · refine qg 31 rfl<|qv rfl (Qb Hv rfl)<|qv rfl (Qd (v := .int .i64 p0.Word) Qv rfl c rfl)<|qv rfl (Zc (a := p0.Word) (b := 1) rfl rfl)<|qp rfl (Qm rfl) (fun c9 => ?_) (fun c9 => ?_)
   · replace hm := iT c9 hm
     refine qk rfl<|qk rfl<|qk rfl<|qm rfl<|qm rfl<|qk rfl<|qk rfl<|qk rfl<|qk rfl<|qk rfl<|qm rfl<|qm rfl<|qk rfl<|qk rfl<|qk rfl<|qk rfl<|qk rfl<|qk rfl<|qm rfl<|qm rfl<|qk rfl<|qk rfl<|qk rfl<|qk rfl<|qk rfl ?_
     refine qk rfl<|qm rfl<|Qh ?_
     exact ⟨rfl, true, Qf, hm, Qz⟩
   replace hm := iF c9 hm
   refine qv rfl (Qb Hv rfl)<|qv rfl (Qd (v := .int .i64 p0.Word) Qv rfl c rfl)<|qv rfl (Va (a := p0.Word) (b := 1000) rfl rfl)<|qm rfl<|qp rfl (Qm rfl) (fun f => ?_) (fun f => ?_)
   · replace hm := iT f hm
     refine qk rfl<|qk rfl<|qk rfl<|qk rfl<|qk rfl<|qm rfl<|qm rfl<|qk rfl<|qk rfl<|qk rfl<|qk rfl<|qk rfl<|qk rfl<|qm rfl<|qm rfl<|qk rfl<|qk rfl<|qk rfl<|qk rfl<|qk rfl<|qk rfl<|qm rfl<|Qh ?_
     exact ⟨rfl, true, Qf, hm, Qz⟩
   replace hm := iF f hm
   refine qv rfl (Qb Dx rfl)<|qv rfl (Qd (v := .int .i64 p0.Epoch) Qv rfl c rfl)<|qv rfl (Qb Hv rfl)<|qv rfl (Qd (v := .int .i64 p0.Word) Qv rfl c rfl)<|qv rfl (Zc (a := p0.Epoch) (b := p0.Word) rfl rfl)<|qm rfl<|qp rfl (Qm rfl) (fun g => ?_) (fun g => ?_)
   · replace hm := iT g hm
     refine qk rfl<|qk rfl<|qk rfl<|qk rfl<|qk rfl<|qk rfl<|qm rfl<|qm rfl<|qk rfl<|qk rfl<|qk rfl<|qk rfl<|qk rfl<|qk rfl<|qm rfl<|Qh ?_
     exact ⟨rfl, true, Qf, hm, Qz⟩
   replace hm := iF g hm
   refine qv rfl (Qb Dx rfl)<|qv rfl (Qd (v := .int .i64 p0.Epoch) Qv rfl c rfl)<|qv rfl (Qb Hv rfl)<|qv rfl (Qd (v := .int .i64 p0.Word) Qv rfl c rfl)<|qv rfl (Wa (k := .i64) (a := 1000) (b := p0.Word) rfl rfl)<|qv rfl (Va (a := p0.Epoch) (b := Qi (1000 * p0.Word)) rfl rfl)<|qm rfl<|qp rfl (Qm rfl) (fun h => ?_) (fun h => ?_)
   · replace hm := iT h hm
     refine qk rfl<|qk rfl<|qk rfl<|qk rfl<|qk rfl<|qk rfl<|qm rfl<|Qh ?_
     exact ⟨rfl, true, Qf, hm, Qz⟩
   replace hm := iF h hm
   refine qv rfl (Qb Dx rfl)<|qv rfl (Qd (v := .int .i64 p0.Epoch) Qv rfl c rfl)<|qv rfl (Qb Hv rfl)<|qv rfl (Qd (v := .int .i64 p0.Word) Qv rfl c rfl) ?_
   obtain ⟨x3, i, hm⟩ := Qc hm
   refine qv rfl (Hm (a := p0.Epoch) (b := p0.Word) rfl rfl i)<|qv rfl (Jw (a := x3) (b := 0) rfl rfl)<|qm rfl<|Qh ?_
   exact ⟨rfl, (decide (x3 ≠ 0)), Qf, hm, Qz⟩
 clear hm; rintro a1 w2 ⟨hm, K2⟩
 unfold Sk at hm
 refine Xj rfl (fun c1 => ?_) (fun c1 => ?_)
 · replace hm := Xx c1 hm
   refine qs 1 rfl<|qm rfl<|qb ?_
   have X5 := (X3.kz K2)
   cases hm
   refine ⟨_, _, rfl, Qt rfl (Qg rfl), ?_⟩
   exact ⟨rfl, X5⟩
 replace hm := Xw c1 hm
 refine qu<|Qe ?_
 have X6 := (X3.kz K2)
 refine qj (β := Bool) (rg 34 30) (fun a2 => [(63, .bool a2)]) (fun a2 wr => (Li p0 a2 = some r) ∧ Kz [] w2 wr) ?_ ?_
 · refine qg 30 rfl<|qv rfl (Qb Eu rfl) ?_
   have d := (c.kz K2)
   refine qv rfl (Qd (v := .int .i64 p0.Early) Qv rfl d rfl)<|qv rfl (Zc (a := p0.Early) (b := 0) rfl rfl)<|qp rfl (Qm rfl) (fun c4 => ?_) (fun c4 => ?_)
   · replace hm := iT c4 hm
     refine qk rfl<|qk rfl<|qk rfl<|qm rfl<|qm rfl<|qk rfl<|qk rfl<|qk rfl<|qm rfl<|qm rfl<|qk rfl<|qk rfl<|qk rfl<|qk rfl<|qk rfl<|qm rfl<|qm rfl<|qk rfl<|qk rfl<|qk rfl<|qm rfl<|qm rfl<|qk rfl<|qk rfl<|qk rfl ?_
     refine qm rfl<|Qh ?_
     exact ⟨rfl, true, Qf, hm, Qz⟩
   replace hm := iF c4 hm
   refine qv rfl (Qb Hf rfl)<|qv rfl (Qd (v := .int .i64 p0.Drift) Qv rfl d rfl)<|qv rfl (Zc (a := p0.Drift) (b := 0) rfl rfl)<|qm rfl<|qp rfl (Qm rfl) (fun c5 => ?_) (fun c5 => ?_)
   · replace hm := iT c5 hm
     refine qk rfl<|qk rfl<|qk rfl<|qm rfl<|qm rfl<|qk rfl<|qk rfl<|qk rfl<|qk rfl<|qk rfl<|qm rfl<|qm rfl<|qk rfl<|qk rfl<|qk rfl<|qm rfl<|qm rfl<|qk rfl<|qk rfl<|qk rfl<|qm rfl<|Qh ?_
     exact ⟨rfl, true, Qf, hm, Qz⟩
   replace hm := iF c5 hm
   refine qv rfl (Qb Lc rfl)<|qv rfl (Qd (v := .int .i64 p0.Delay) Qv rfl d rfl)<|qv rfl (Zc (a := p0.Delay) (b := 0) rfl rfl)<|qm rfl<|qp rfl (Qm rfl) (fun c6 => ?_) (fun c6 => ?_)
   · replace hm := iT c6 hm
     refine qk rfl<|qk rfl<|qk rfl<|qk rfl<|qk rfl<|qm rfl<|qm rfl<|qk rfl<|qk rfl<|qk rfl<|qm rfl<|qm rfl<|qk rfl<|qk rfl<|qk rfl<|qm rfl<|Qh ?_
     exact ⟨rfl, true, Qf, hm, Qz⟩
   replace hm := iF c6 hm
   refine qv rfl (Qb Eu rfl)<|qv rfl (Qd (v := .int .i64 p0.Early) Qv rfl d rfl)<|qv rfl (Qb Dx rfl)<|qv rfl (Qd (v := .int .i64 p0.Epoch) Qv rfl d rfl)<|qv rfl (Va (a := p0.Early) (b := p0.Epoch) rfl rfl)<|qm rfl<|qp rfl (Qm rfl) (fun c7 => ?_) (fun c7 => ?_)
   · replace hm := iT c7 hm
     refine qk rfl<|qk rfl<|qk rfl<|qm rfl<|qm rfl<|qk rfl<|qk rfl<|qk rfl<|qm rfl<|Qh ?_
     exact ⟨rfl, true, Qf, hm, Qz⟩
   replace hm := iF c7 hm
   refine qv rfl (Qb Hf rfl)<|qv rfl (Qd (v := .int .i64 p0.Drift) Qv rfl d rfl)<|qv rfl (Va (a := p0.Drift) (b := 3000) rfl rfl)<|qm rfl<|qp rfl (Qm rfl) (fun c8 => ?_) (fun c8 => ?_)
   · replace hm := iT c8 hm
     refine qk rfl<|qk rfl<|qk rfl<|qm rfl<|Qh ?_
     exact ⟨rfl, true, Qf, hm, Qz⟩
   replace hm := iF c8 hm
   refine qv rfl (Qb Lc rfl)<|qv rfl (Qd (v := .int .i64 p0.Delay) Qv rfl d rfl)<|qv rfl (Va (a := p0.Delay) (b := 3000) rfl rfl)<|qm rfl<|Qh ?_
   exact ⟨rfl, (decide ((3000 : Int) < p0.Delay)), Qf, hm, Qz⟩
 clear hm; rintro a2 w3 ⟨hm, K3⟩
 unfold Li at hm
 refine Xj rfl (fun c2 => ?_) (fun c2 => ?_)
 · replace hm := Xx c2 hm
   refine qs 1 rfl<|qm rfl<|qb ?_
   have X8 := (X6.kz K3)
   cases hm
   refine ⟨_, _, rfl, Qt rfl (Qg rfl), ?_⟩
   exact ⟨rfl, X8⟩
 replace hm := Xw c2 hm
 refine qu<|qs 21 rfl<|qv rfl (Qb Hf rfl) ?_
 have B9 := ((c.kz K2).kz K3)
 refine qv rfl (Qd (v := .int .i64 p0.Drift) Qv rfl B9 rfl)<|qv rfl (Wa (k := .i64) (a := 2) (b := p0.Drift) rfl rfl)<|qv rfl (Qb Lc rfl)<|qv rfl (Qd (v := .int .i64 p0.Delay) Qv rfl B9 rfl)<|qv rfl (Zg (k := .i64) (a := Qi (2 * p0.Drift)) (b := p0.Delay) rfl rfl)<|qv rfl (Qb Hv rfl)<|qv rfl (Qd (v := .int .i64 p0.Word) Qv rfl B9 rfl)<|qv rfl (Wa (k := .i64) (a := 3) (b := p0.Word) rfl rfl)<|qv rfl (Zc (a := Qi ((Qi (2 * p0.Drift)) + p0.Delay)) (b := Qi (3 * p0.Word)) rfl rfl)<|Jh rfl (Qm rfl) (fun c3 => ?_) (fun c3 => ?_)
 · replace hm := iF c3 hm
   refine qk rfl<|qk rfl<|qk rfl<|qk rfl<|qk rfl<|qk rfl<|qk rfl<|qk rfl<|qm rfl<|qm rfl<|Qa<|Qo ?_
   have j := (X6.kz K3)
   cases hm
   refine ⟨_, _, rfl, Qt rfl (Qg rfl), ?_⟩
   exact ⟨rfl, j⟩
 replace hm := iT c3 hm
 refine qv rfl (Qb Eu rfl)<|qv rfl (Qd (v := .int .i64 p0.Early) Qv rfl B9 rfl)<|qv rfl (Qb Lc rfl)<|qv rfl (Qd (v := .int .i64 p0.Delay) Qv rfl B9 rfl)<|qv rfl (Zg (k := .i64) (a := p0.Early) (b := p0.Delay) rfl rfl)<|qv rfl (Qb Dx rfl)<|qv rfl (Qd (v := .int .i64 p0.Epoch) Qv rfl B9 rfl)<|qv rfl (Pf (a := Qi (p0.Early + p0.Delay)) (b := p0.Epoch) rfl rfl)<|qm rfl<|qm rfl<|Qa<|Qo ?_
 have l := (X6.kz K3)
 cases hm
 refine ⟨_, _, rfl, Qt rfl (Qg rfl), ?_⟩
 exact ⟨rfl, l⟩
theorem Xf5 {p0 r} (hm : Qjj p0 = some r) {w : World} :
    Calls Tryz.prog 117 [.agg (Za.cs p0).toArray].toArray w fun e w' => ∃ v, e = .returned v ∧ (v = .int .i64 r ∧ Gr w w') := by
 unfold Qjj at hm
 refine Xe 6 Tryz.func117 rfl rfl rfl<|qs 2 rfl<|qe rfl (Qy (cs := Za.cs p0) rfl rfl) ?_
 rintro _ w1 ⟨b1, rfl, c, a, G1⟩
 refine qm rfl<|Qa<|Qe<|qs 3 rfl<|qv rfl (Qp Yt rfl a rfl) ?_
 obtain ⟨x1, b, hm⟩ := Qc hm
 refine qe rfl (eC Qxs rfl (Xfg b)) ?_
 rintro _ w2 ⟨rfl, G2⟩
 refine qv rfl (Jb rfl)<|Qa<|Xj rfl (fun c1 => ?_) (fun c1 => ?_)
 · replace hm := Xx c1 hm
   refine qs 1 rfl<|qm rfl<|qb ?_
   have X4 := (((Gr.refl w).trans G1).trans G2)
   cases hm
   refine ⟨_, _, rfl, Qt rfl (Qg rfl), ?_⟩
   exact ⟨rfl, X4⟩
 replace hm := Xw c1 hm
 refine qu<|qs 1 rfl<|qm rfl<|Qa<|Qo ?_
 have X5 := (((Gr.refl w).trans G1).trans G2)
 cases hm
 refine ⟨_, _, rfl, Qt rfl (Qg rfl), ?_⟩
 exact ⟨rfl, X5⟩
theorem Qu7 {p0 p1 r} (hm : Qcq p0 p1 = some r) {w : World} :
    Calls Tryz.prog 57 [.agg (Qs.cs p0).toArray, .agg (Za.cs p1).toArray].toArray w fun e w' => ∃ v, e = .returned v ∧ (v = .int .i64 r ∧ Gr w w') := by
 unfold Qcq at hm
 refine Xe 13 Tryz.func57 rfl rfl rfl<|qs 3 rfl<|qe rfl (Qy (cs := Qs.cs p0) rfl rfl) ?_
 rintro _ w1 ⟨b1, rfl, i, c, G1⟩
 refine qe rfl (Qy (cs := Za.cs p1) rfl rfl) ?_
 rintro _ w2 ⟨b2, rfl, j, d, G2⟩
 refine qm rfl<|Qa<|Qe<|qs 3 rfl ?_
 have B5 := (c.gr G2)
 refine qv rfl (Qp Zw rfl B5 rfl) ?_
 obtain ⟨x1, f, hm⟩ := Qc hm
 refine qe rfl (eC Qm4 rfl (Qnv f)) ?_
 rintro _ w3 ⟨rfl, G3⟩
 refine qm rfl<|qd 2 rfl<|qm rfl<|qv rfl (Jw (a := x1) (b := 0) rfl rfl)<|Qa<|Xj rfl (fun c1 => ?_) (fun c1 => ?_)
 · replace hm := iT c1 hm
   refine qs 2 rfl<|qm rfl<|qm rfl<|qb ?_
   have X7 := ((((Gr.refl w).trans G1).trans G2).trans G3)
   cases hm
   refine ⟨_, _, rfl, Qt rfl (Qg rfl), ?_⟩
   exact ⟨rfl, X7⟩
 replace hm := iF c1 hm
 refine qu<|qs 3 rfl ?_
 have B8 := (d.gr G3)
 refine qv rfl (Qp Yt rfl B8 rfl) ?_
 obtain ⟨x2, g, hm⟩ := Qc hm
 refine qe rfl (eC Qxv rfl (Xf5 g)) ?_
 rintro _ w4 ⟨rfl, G4⟩
 refine qm rfl<|Qa<|Qo ?_
 have h := (((((Gr.refl w).trans G1).trans G2).trans G3).trans G4)
 cases hm
 refine ⟨_, _, rfl, Qt rfl (Qg rfl), ?_⟩
 exact ⟨rfl, h⟩
theorem Xfd {p0 p1 p2 r} (hm : Qgi p0 p1 p2 = some r) {w : World} :
    Calls Tryz.prog 58 [kv p0, .agg (Qs.cs p1).toArray, .int .i64 p2].toArray w fun e w' => ∃ v, e = .returned v ∧ (∃ ur0_1 zr0_1 gr0_1, v = .tuple [.agg (Qq.cs r.1 ur0_1).toArray, .int .i64 r.2].toArray ∧ Qn w' zr0_1 gr0_1 72 18 ur0_1 (r.1.Labels.map Xn.cs) ∧ Zm (zr0_1 = 0 ∨ w.heap.size ≤ gr0_1) ∧ Gr w w') := by
 unfold Qgi at hm
 refine Xe 30 Tryz.func58 rfl rfl rfl<|qs 4 rfl<|qe rfl (Qy (cs := kb p0) rfl rfl) ?_
 rintro _ w1 ⟨b1, rfl, N, o, G1⟩
 have Q := o.lt
 refine qe rfl (Qy (cs := Qs.cs p1) rfl rfl) ?_
 rintro _ w2 ⟨b2, rfl, O, t, G2⟩
 have R := t.lt
 refine qe rfl (Xh (cs := Qq.cs (Qq.mk 0 [] (Qu.mk 0#64 0#64)) (.slice none 0 0)) Gl rfl) ?_
 rintro _ w3 ⟨b3, rfl, P, n, G3⟩
 have S := n.lt
 refine qm rfl<|Qa<|Qe<|qs 3 rfl ?_
 have B7 := (t.gr G3)
 refine qv rfl (Qp Zw rfl B7 rfl) ?_
 obtain ⟨x1, u, hm⟩ := Qc hm
 refine qe rfl (eC Qm4 rfl (Qnv u)) ?_
 rintro _ w4 ⟨rfl, G4⟩
 have z8 := G4.size
 refine qm rfl<|qd 2 rfl<|qm rfl<|qv rfl (Jw (a := x1) (b := 0) rfl rfl)<|Qa<|Xj rfl (fun c1 => ?_) (fun c1 => ?_)
 · replace hm := iT c1 hm
   refine qs 4 rfl<|qv rfl (Zv (cs := Qq.cs (Qq.mk 0 [] (Qu.mk 0#64 0#64)) (.slice none 0 0)) Da rfl rfl)<|qm rfl ?_
   have B9 := (n.gr G4)
   refine qe rfl (Qx Jc rfl rfl (Qq.cs_ones _ _ rfl) B9 rfl rfl) ?_
   rintro _ w5 ⟨y, M5⟩
   refine qm rfl<|qb ?_
   have Y1 := Gr.trans (Gr.trans (Gr.trans G1 G2) G3) G4
   have z := (((Gr.refl w).trans Y1).md M5)
   cases hm
   refine ⟨_, _, rfl, Zb rfl (Xr Jc rfl y rfl) (Qg rfl), ?_⟩
   exact ⟨(.slice none 0 0), 0, 0, rfl, (Ji _ 0 72 18), ⟨.inl rfl⟩, z⟩
 replace hm := iF c1 hm
 refine qu<|Qe<|qs 3 rfl<|qv rfl (Qb Yg rfl) ?_
 have s := (B7.gr G4)
 refine qv rfl (Qd (v := bv p1.Kind) Xs rfl s rfl)<|qv rfl (Yz (p := p1.Kind) (q := 4#8) rfl rfl)<|Qa<|Xj rfl (fun c2 => ?_) (fun c2 => ?_)
 · replace hm := iT c2 hm
   refine qs 8 rfl ?_
   have Y2 := Gr.trans (Gr.trans G2 G3) G4
   have B := (o.gr Y2)
   refine qv rfl (Qp Ql rfl B rfl)<|qv rfl (Qp Zw rfl s rfl)<|qm rfl ?_
   obtain ⟨x2, C, hm⟩ := Qc hm
   refine qe rfl (eC Qxw rfl (Xf0 C)) ?_
   rintro _ w6 ⟨h, i, j, rfl, c, d, G6⟩
   refine qm rfl<|qm rfl ?_
   have D := ((n.gr G4).gr G6)
   refine qe rfl (Qx Jc rfl rfl (Qq.cs_ones _ _ (Qn.oneB c)) D rfl rfl) ?_
   rintro _ w7 ⟨E, M7⟩
   refine qm rfl<|qb ?_
   have F := (c.md M7 (Jv d))
   have G := (((((Gr.refl w).trans G1).trans Y2).trans G6).md M7)
   cases hm
   refine ⟨_, _, rfl, Zb rfl (Xr Jc rfl E rfl) (Qg rfl), ?_⟩
   exact ⟨h, i, j, rfl, F, ⟨(Jf (A := (fun x => w.heap.size ≤ x)) d)⟩, G⟩
 replace hm := iF c2 hm
 refine qu<|qs 8 rfl ?_
 have Y3 := Gr.trans (Gr.trans G2 G3) G4
 have H := (o.gr Y3)
 refine qv rfl (Qp Ql rfl H rfl)<|qv rfl (Qp Zw rfl s rfl)<|qm rfl ?_
 obtain ⟨x3, I, hm⟩ := Qc hm
 refine qe rfl (eC Qxx rfl (Xep I)) ?_
 rintro _ w8 ⟨k, l, m, rfl, f, g, G8⟩
 refine qm rfl<|qm rfl ?_
 have J := ((n.gr G4).gr G8)
 refine qe rfl (Qx Jc rfl rfl (Qq.cs_ones _ _ (Qn.oneB f)) J rfl rfl) ?_
 rintro _ w9 ⟨K, M9⟩
 refine qm rfl<|Qa<|Qo ?_
 have L := (f.md M9 (Jv g))
 have M := (((((Gr.refl w).trans G1).trans Y3).trans G8).md M9)
 cases hm
 refine ⟨_, _, rfl, Zb rfl (Xr Jc rfl K rfl) (Qg rfl), ?_⟩
 exact ⟨k, l, m, rfl, L, ⟨(Jf (A := (fun x => w.heap.size ≤ x)) g)⟩, M⟩
theorem Xf7 {p0 p1 p2 p3 p4 r} (hm : Qgc p0 p1 p2 p3 p4 = some r) {w : World} :
    Calls Tryz.prog 16 [kv p0, .agg (Qs.cs p1).toArray, .agg (Za.cs p2).toArray, .int .i64 p3, .int .i64 p4].toArray w fun e w' => ∃ v, e = .returned v ∧ (∃ ur0_1 zr0_1 gr0_1, v = .tuple [.agg (Qw.cs r.1 ur0_1).toArray, .int .i64 r.2].toArray ∧ Qn w' zr0_1 gr0_1 72 18 ur0_1 (r.1.Secret.Labels.map Xn.cs) ∧ Zm (zr0_1 = 0 ∨ w.heap.size ≤ gr0_1) ∧ Gr w w') := by
 unfold Qgc at hm
 refine Xe 48 Tryz.func16 rfl rfl rfl<|qs 5 rfl<|qe rfl (Qy (cs := kb p0) rfl rfl) ?_
 rintro _ w1 ⟨b1, rfl, V, m, G1⟩
 have Z := m.lt
 refine qe rfl (Qy (cs := Qs.cs p1) rfl rfl) ?_
 rintro _ w2 ⟨b2, rfl, W, n, G2⟩
 have aa := n.lt
 refine qe rfl (Qy (cs := Za.cs p2) rfl rfl) ?_
 rintro _ w3 ⟨b3, rfl, X, o, G3⟩
 have ab := o.lt
 refine qe rfl (Xh (cs := Qw.cs (Qw.mk (Qq.mk 0 [] (Qu.mk 0#64 0#64)) 0 (Zp.mk (Xg.mk false 0 k0) (Xg.mk false 0 k0))) (.slice none 0 0)) Gm rfl) ?_
 rintro _ w4 ⟨b4, rfl, Y, g, G4⟩
 have ac := g.lt
 refine qm rfl<|Qa<|Qe<|qs 4 rfl ?_
 have Y1 := Gr.trans G3 G4
 have B9 := (n.gr Y1)
 refine qv rfl (Qp Zw rfl B9 rfl) ?_
 have p := (o.gr G4)
 refine qv rfl (Qp Yt rfl p rfl) ?_
 obtain ⟨x1, E, hm⟩ := Qc hm
 refine qe rfl (eC Qqz rfl (Qu7 E)) ?_
 rintro _ w5 ⟨rfl, G5⟩
 have ad := G5.size
 refine qm rfl<|qd 2 rfl<|qm rfl<|qv rfl (Jw (a := x1) (b := 0) rfl rfl)<|Qa<|Xj rfl (fun c1 => ?_) (fun c1 => ?_)
 · replace hm := iT c1 hm
   refine qs 4 rfl<|qv rfl (Zv (cs := Qw.cs (Qw.mk (Qq.mk 0 [] (Qu.mk 0#64 0#64)) 0 (Zp.mk (Xg.mk false 0 k0) (Xg.mk false 0 k0))) (.slice none 0 0)) Ht rfl (by kernel_rfl))<|qm rfl ?_
   have F := (g.gr G5)
   refine qe rfl (Qx Zr rfl rfl (Qw.cs_ones _ _ rfl) F rfl rfl) ?_
   rintro _ w6 ⟨G, M6⟩
   refine qm rfl<|qb ?_
   have Y2 := Gr.trans (Gr.trans (Gr.trans G1 G2) Y1) G5
   have H := (((Gr.refl w).trans Y2).md M6)
   cases hm
   refine ⟨_, _, rfl, Zb rfl (Xr Zr rfl G rfl) (Qg rfl), ?_⟩
   exact ⟨(.slice none 0 0), 0, 0, rfl, (Ji _ 0 72 18), ⟨.inl rfl⟩, H⟩
 replace hm := iF c1 hm
 refine qu<|Qe ?_
 have Y3 := Gr.trans (Gr.trans (Gr.trans G1 G2) Y1) G5
 have k := ((Gr.refl w).trans Y3)
 refine qj (β := Bool) (rg 22 11) (fun a2 => [(32, .bool a2)]) (fun a2 wr => (Qcl p0 p1 p3 p4 a2 = some r) ∧ Kz [] w5 wr) ?_ ?_
 · refine qg 11 rfl<|qm rfl<|qv rfl (Qb Hf rfl) ?_
   have q := (p.gr G5)
   refine qv rfl (Qd (v := .int .i64 p2.Drift) Qv rfl q rfl)<|qv rfl (Qke (a := p2.Drift) rfl)<|qv rfl (Zc (a := p4) (b := Qi (-p2.Drift)) rfl rfl)<|qp rfl (Qm rfl) (fun c4 => ?_) (fun c4 => ?_)
   · replace hm := iT c4 hm
     refine qk rfl<|qk rfl<|qk rfl<|qk rfl<|qm rfl<|Qh ?_
     exact ⟨rfl, true, Qf, hm, Qz⟩
   replace hm := iF c4 hm
   refine qm rfl<|qv rfl (Qb Hf rfl)<|qv rfl (Qd (v := .int .i64 p2.Drift) Qv rfl q rfl)<|qv rfl (Va (a := p4) (b := p2.Drift) rfl rfl)<|qm rfl<|Qh ?_
   exact ⟨rfl, (decide (p2.Drift < p4)), Qf, hm, Qz⟩
 clear hm; rintro a2 w7 ⟨hm, K7⟩
 have ae := K7.size
 unfold Qcl at hm
 refine Xj rfl (fun c2 => ?_) (fun c2 => ?_)
 · replace hm := Xx c2 hm
   refine qs 3 rfl<|qv rfl (Zv (cs := Qw.cs (Qw.mk (Qq.mk 0 [] (Qu.mk 0#64 0#64)) 0 (Zp.mk (Xg.mk false 0 k0) (Xg.mk false 0 k0))) (.slice none 0 0)) Ht rfl (by kernel_rfl)) ?_
   have I := ((g.gr G5).kz K7)
   refine qe rfl (Qx Zr rfl rfl (Qw.cs_ones _ _ rfl) I rfl rfl) ?_
   rintro _ w8 ⟨J, M8⟩
   refine qm rfl<|qb ?_
   have K := ((k.kz K7).md M8)
   cases hm
   refine ⟨_, _, rfl, Zb rfl (Xr Zr rfl J rfl) (Qg rfl), ?_⟩
   exact ⟨(.slice none 0 0), 0, 0, rfl, (Ji _ 0 72 18), ⟨.inl rfl⟩, K⟩
 replace hm := Xw c2 hm
 refine qu<|qs 10 rfl ?_
 have Y4 := Gr.trans (Gr.trans G2 Y1) G5
 have L := ((m.gr Y4).kz K7)
 refine qv rfl (Qp Ql rfl L rfl) ?_
 have M := ((B9.gr G5).kz K7)
 refine qv rfl (Qp Zw rfl M rfl)<|qm rfl ?_
 obtain ⟨x3, N, hm⟩ := Qc hm
 refine qe rfl (eC Qzy rfl (Xfd N)) ?_
 rintro _ w9 ⟨c, h, i, rfl, d, f, G9⟩
 have af := G9.size
 have s := d.lth
 refine qm rfl<|qm rfl<|qm rfl<|qe rfl (Xh (cs := Qq.cs (Qq.mk 0 [] (Qu.mk 0#64 0#64)) (.slice none 0 0)) Gl rfl) ?_
 rintro _ ag ⟨ah, rfl, O, t, l⟩
 have u := (d.gr l)
 refine qe rfl (Qx Jc rfl rfl (Qq.cs_ones _ _ (Qn.oneB u)) t rfl rfl) ?_
 rintro _ ai ⟨y, j⟩
 refine qm rfl<|Qa<|Qe<|qs 2 rfl<|qm rfl<|qv rfl (Jw (a := x3.2) (b := 0) rfl rfl)<|Qa<|Xj rfl (fun c3 => ?_) (fun c3 => ?_)
 · replace hm := iT c3 hm
   refine qs 4 rfl<|qv rfl (Zv (cs := Qw.cs (Qw.mk (Qq.mk 0 [] (Qu.mk 0#64 0#64)) 0 (Zp.mk (Xg.mk false 0 k0) (Xg.mk false 0 k0))) (.slice none 0 0)) Ht rfl (by kernel_rfl))<|qm rfl ?_
   have Y5 := Gr.trans G9 l
   have P := ((((g.gr G5).kz K7).gr Y5).md j)
   refine qe rfl (Qx Zr rfl rfl (Qw.cs_ones _ _ rfl) P rfl rfl) ?_
   rintro _ aj ⟨z, Q⟩
   refine qm rfl<|qb ?_
   have R := ((((k.kz K7).trans Y5).md j).md Q)
   cases hm
   refine ⟨_, _, rfl, Zb rfl (Xr Zr rfl z rfl) (Qg rfl), ?_⟩
   exact ⟨(.slice none 0 0), 0, 0, rfl, (Ji _ 0 72 18), ⟨.inl rfl⟩, R⟩
 replace hm := iF c3 hm
 refine qu<|qs 5 rfl<|qv rfl (Qp Jc rfl y rfl)<|qm rfl<|qv rfl (Zv (cs := Qw.cs (Qw.mk x3.1 p4 (Zp.mk (Xg.mk false 0 k0) (Xg.mk false 0 k0))) c) Ht rfl (Pq rfl rfl rfl (Pq rfl rfl rfl (by kernel_rfl)))) ?_
 have Y6 := Gr.trans G9 l
 have S := ((((g.gr G5).kz K7).gr Y6).md j)
 have B := (u.md j (Xd s))
 refine qe rfl (Qx Zr rfl rfl (Qw.cs_ones _ _ (Qn.oneB B)) S rfl rfl) ?_
 rintro _ ak ⟨C, D⟩
 refine qm rfl<|Qa<|Qo ?_
 have T := (B.md D (Jv f))
 have U := ((((k.kz K7).trans Y6).md j).md D)
 cases hm
 refine ⟨_, _, rfl, Zb rfl (Xr Zr rfl C rfl) (Qg rfl), ?_⟩
 exact ⟨c, h, i, rfl, T, ⟨(Jf (A := (fun x => w.heap.size ≤ x)) f)⟩, U⟩
theorem Qm8 {p0 r} (hm : Fj p0 = some r) {w : World} :
    Calls Tryz.prog 60 [.int .i64 p0].toArray w fun e w' => ∃ v, e = .returned v ∧ (v = .bool r ∧ Gr w w') := by
 unfold Fj at hm
 refine Xe 9 Tryz.func60 rfl rfl rfl<|qs 1 rfl<|qm rfl<|qd 7 rfl<|qm rfl<|qv rfl (Kl (a := p0) (b := 0) rfl rfl)<|qp rfl (Qm rfl) (fun c1 => ?_) (fun c1 => ?_)
 · replace hm := iT c1 hm
   refine qm rfl<|qv rfl (Pf (a := p0) (b := 1099511627776) rfl rfl)<|qm rfl<|qm rfl<|Qa<|Qo ?_
   cases hm
   refine ⟨_, _, rfl, Qt rfl (Qg rfl), ?_⟩
   exact ⟨rfl, (Gr.refl w)⟩
 replace hm := iF c1 hm
 refine qk rfl<|qk rfl<|qm rfl<|qm rfl<|Qa<|Qo ?_
 cases hm
 refine ⟨_, _, rfl, Qt rfl (Qg rfl), ?_⟩
 exact ⟨rfl, (Gr.refl w)⟩
theorem Qr2 {p0 p1 p2 vp2_1 zp2_1 gp2_1 op2_1 r} (hm : Qao p0 p1 p2 = some r) {w : World} (C : Rd w zp2_1 gp2_1 op2_1 18 vp2_1 (p2.Secret.Labels.map Xn.cs)) :
    Calls Tryz.prog 20 [.agg (Qs.cs p0).toArray, .agg (Za.cs p1).toArray, .agg (Qw.cs p2 vp2_1).toArray].toArray w fun e w' => ∃ v, e = .returned v ∧ (v = .int .i64 r ∧ Gr w w') := by
 unfold Qao at hm
 refine Xe 76 Tryz.func20 rfl rfl rfl<|qs 4 rfl<|qe rfl (Qy (cs := Qs.cs p0) rfl rfl) ?_
 rintro _ w1 ⟨b1, rfl, P, u, G1⟩
 have U := u.lt
 refine qe rfl (Qy (cs := Za.cs p1) rfl rfl) ?_
 rintro _ w2 ⟨b2, rfl, Q, x, G2⟩
 have V := x.lt
 refine qe rfl (Qy (cs := Qw.cs p2 vp2_1) rfl rfl) ?_
 rintro _ w3 ⟨b3, rfl, R, m, G3⟩
 have W := m.lt
 refine qm rfl<|Qa<|Qe<|qs 4 rfl ?_
 have Y1 := Gr.trans G2 G3
 have B8 := (u.gr Y1)
 refine qv rfl (Qp Zw rfl B8 rfl) ?_
 have B9 := (x.gr G3)
 refine qv rfl (Qp Yt rfl B9 rfl) ?_
 obtain ⟨x1, D, hm⟩ := Qc hm
 refine qe rfl (eC Qqy rfl (Qr4 D)) ?_
 rintro _ w4 ⟨rfl, G4⟩
 have X := G4.size
 refine qm rfl<|qd 2 rfl<|qm rfl<|qv rfl (Jw (a := x1) (b := 0) rfl rfl)<|Qa<|Xj rfl (fun c1 => ?_) (fun c1 => ?_)
 · replace hm := iT c1 hm
   refine qs 2 rfl<|qm rfl<|qm rfl<|qb ?_
   have Y2 := Gr.trans (Gr.trans G1 Y1) G4
   have E := ((Gr.refl w).trans Y2)
   cases hm
   refine ⟨_, _, rfl, Qt rfl (Qg rfl), ?_⟩
   exact ⟨rfl, E⟩
 replace hm := iF c1 hm
 refine qu<|Qe ?_
 have Y3 := Gr.trans (Gr.trans G1 Y1) G4
 have y := ((Gr.refl w).trans Y3)
 refine qj (β := Bool) (rg 16 28) (fun a2 => [(43, .bool a2)]) (fun a2 wr => (El p2 a2 = some r) ∧ Kz [] w4 wr) ?_ ?_
 · refine dw [([])] [] (.leaf [(0,10),(1,10),(2,10),(3,10),(4,10),(5,10),(6,10),(7,10),(8,10),(9,10),(10,10),(11,10),(12,10),(13,10),(14,10),(15,10),(16,10),(17,10),(18,10),(19,10),(20,10),(21,10),(22,10),(23,10),(24,10),(25,10),(26,10),(27,10)]) ?_
   intro n d S
   refine Zj<|dh 0 rfl rfl (fun w hS => Qb Nb rfl) ?_
   have j := ((m.gr G4).gr d)
   refine dh 0 rfl rfl (fun w hS => Qd (v := .int .i64 p2.Ahead) Qv rfl (Bx.kp j hS) rfl)<|dh 0 rfl rfl (fun w hS => Qb Hf rfl) ?_
   have z := ((B9.gr G4).gr d)
   refine dh 0 rfl rfl (fun w hS => Qd (v := .int .i64 p1.Drift) Qv rfl (Bx.kp z hS) rfl)<|dh 0 rfl rfl (fun w hS => Qke (a := p1.Drift) rfl)<|dh 0 rfl rfl (fun w hS => Zc (a := p2.Ahead) (b := Qi (-p1.Drift)) rfl rfl)<|qq 0 rfl rfl (Kp.refl ([]) n) (fun w hS => Qm rfl) (fun o => ?_) (fun o => ?_)
   · replace hm := iT o hm
     refine dx 0 rfl rfl<|dx 0 rfl rfl<|dx 0 rfl rfl<|dx 0 rfl rfl<|dx 0 rfl rfl<|dm 0 rfl rfl<|dm 0 rfl rfl<|dx 0 rfl rfl<|dx 0 rfl rfl<|dx 0 rfl rfl<|dx 0 rfl rfl<|dm 0 rfl rfl<|dm 0 rfl rfl<|dx 0 rfl rfl<|dx 0 rfl rfl<|dx 0 rfl rfl<|dx 0 rfl rfl<|dx 0 rfl rfl<|dx 0 rfl rfl<|dx 0 rfl rfl<|dm 0 rfl rfl<|Qh ?_
     exact ⟨rfl, true, Qf, hm, (Qz.gr d)⟩
   replace hm := iF o hm
   refine dh 0 rfl rfl (fun w hS => Qb Nb rfl)<|dh 0 rfl rfl (fun w hS => Qd (v := .int .i64 p2.Ahead) Qv rfl (Bx.kp j hS) rfl)<|dh 0 rfl rfl (fun w hS => Qb Hf rfl)<|dh 0 rfl rfl (fun w hS => Qd (v := .int .i64 p1.Drift) Qv rfl (Bx.kp z hS) rfl)<|dh 0 rfl rfl (fun w hS => Va (a := p2.Ahead) (b := p1.Drift) rfl rfl)<|dm 0 rfl rfl<|qq 0 rfl rfl (Kp.refl ([]) n) (fun w hS => Qm rfl) (fun p => ?_) (fun p => ?_)
   · replace hm := iT p hm
     refine dx 0 rfl rfl<|dx 0 rfl rfl<|dx 0 rfl rfl<|dx 0 rfl rfl<|dm 0 rfl rfl<|dm 0 rfl rfl<|dx 0 rfl rfl<|dx 0 rfl rfl<|dx 0 rfl rfl<|dx 0 rfl rfl<|dx 0 rfl rfl<|dx 0 rfl rfl<|dx 0 rfl rfl<|dm 0 rfl rfl<|Qh ?_
     exact ⟨rfl, true, Qf, hm, (Qz.gr d)⟩
   replace hm := iF p hm
   refine dh 0 rfl rfl (fun w hS => Qb Pp rfl)<|dh 0 rfl rfl (fun w hS => Qb Cb rfl)<|dh 0 rfl rfl (fun w hS => Qd (v := .int .i64 p2.Secret.Receiver) Qv rfl (Bx.kp j hS) rfl)<|dh 0 rfl rfl (fun w hS => Zc (a := p2.Secret.Receiver) (b := 0) rfl rfl)<|dm 0 rfl rfl<|qq 0 rfl rfl (Kp.refl ([]) n) (fun w hS => Qm rfl) (fun q => ?_) (fun q => ?_)
   · replace hm := iT q hm
     refine dx 0 rfl rfl<|dx 0 rfl rfl<|dx 0 rfl rfl<|dx 0 rfl rfl<|dx 0 rfl rfl<|dx 0 rfl rfl<|dx 0 rfl rfl<|dm 0 rfl rfl<|Qh ?_
     exact ⟨rfl, true, Qf, hm, (Qz.gr d)⟩
   replace hm := iF q hm
   refine dh 0 rfl rfl (fun w hS => Qb Pp rfl)<|dh 0 rfl rfl (fun w hS => Qb Cb rfl)<|dh 0 rfl rfl (fun w hS => Qd (v := .int .i64 p2.Secret.Receiver) Qv rfl (Bx.kp j hS) rfl)<|dh 0 rfl rfl (fun w hS => Qb Wu rfl) ?_
   have F := ((B8.gr G4).gr d)
   refine dh 0 rfl rfl (fun w hS => Qd (v := .int .i64 p0.Depth) Qv rfl (Bx.kp F hS) rfl) ?_
   obtain ⟨nn9, hnn9, hm⟩ := Qc hm
   refine dh 0 rfl rfl (fun w hS => Qh7 (a := 1) (b := p0.Depth) rfl rfl hnn9)<|dh 0 rfl rfl (fun w hS => Kl (a := p2.Secret.Receiver) (b := Pc 1 nn9) rfl rfl)<|dm 0 rfl rfl<|Qh ?_
   exact ⟨rfl, (decide (Pc 1 nn9 ≤ p2.Secret.Receiver)), Qf, hm, (Qz.gr d)⟩
 clear hm; rintro a2 w5 ⟨hm, K5⟩
 have Y := K5.size
 unfold El at hm
 refine Xj rfl (fun c2 => ?_) (fun c2 => ?_)
 · replace hm := Xx c2 hm
   refine qs 1 rfl<|qm rfl<|qb ?_
   have G := (y.kz K5)
   cases hm
   refine ⟨_, _, rfl, Qt rfl (Qg rfl), ?_⟩
   exact ⟨rfl, G⟩
 replace hm := Xw c2 hm
 refine qu<|Qe<|qs 3 rfl<|qv rfl (Qb Sa rfl) ?_
 have H := ((m.gr G4).kz K5)
 refine qv rfl (Zy (vs := Zp.cs p2.Slots) Ov rfl H rfl rfl)<|qm rfl<|Qa<|Xi ?_
 have A := (y.kz K5)
 refine Zq (α := Nat × Int) ([6, 8, 9] ++ rg 46 30) (fun ⟨n2, a4⟩ => [(6, .int .i64 0), (46, .int .i64 a4)]) (fun ⟨n2, a4⟩ wr => (Qr (Dd p2) n2 a4 = some r) ∧ Kz [] w5 wr) (fun ⟨n2, a4⟩ => n2) ⟨Xb, 0⟩ ?_ ?_ ?_
 · exact Qf
 · exact ⟨hm, Kz.refl _ _⟩
 clear hm; rintro ⟨n2, a4⟩ w6 ⟨hm, K6⟩
 have Z := K6.size
 have hb := Zx hm; clear hm; obtain ⟨n2, rfl, hm⟩ := hb
 generalize s : Qr (Dd p2) n2 = B at hm
 unfold Dd at hm
 try dsimp only at hm
 refine qs 1 rfl<|qv rfl (Zc (a := a4) (b := 2) rfl rfl)<|Qa<|Qe<|Zu rfl (fun c3 => ?_) (fun c3 => ?_)
 · replace hm := iF c3 hm
   refine Zl<|Xk<|Xk<|Zk<|Xl<|qs 1 rfl<|qm rfl<|Qa<|Qo ?_
   have I := (A.kz K6)
   cases hm
   refine ⟨_, _, rfl, Qt rfl (Qg rfl), ?_⟩
   exact ⟨rfl, I⟩
 replace hm := iT c3 hm
 refine qu<|Qe<|Xi<|qs 5 rfl<|qm rfl ?_
 obtain ⟨y5, J, hm⟩ := Qc hm
 refine qv rfl (Xi2 (l := [p2.Slots.a0, p2.Slots.a1]) (c := Xg.cs) (i := a4) Tryz.underlying55 (Yu).siz Yu rfl rfl rfl (Wb _ (fun _ => rfl) (fun _ => rfl)) rfl J)<|qe rfl (Xh (cs := Xg.cs (Xg.mk false 0 k0)) Qhd rfl) ?_
 rintro _ w7 ⟨b7, rfl, T, K, G7⟩
 refine qm rfl<|qe rfl (Qx Yu rfl rfl rfl K rfl rfl) ?_
 rintro _ w8 ⟨f, M8⟩
 refine Qa ?_
 have L := (((A.kz K6).trans G7).md M8)
 refine qj (β := Bool) (rg 50 25) (fun a6 => [(74, .bool a6)]) (fun a6 wr => (Nx a4 B a6 = some r) ∧ Kz [] w8 wr) ?_ ?_
 · refine qg 25 rfl<|qv rfl (Qb Cc rfl)<|qv rfl (Qd (v := .bool y5.Full) Sg rfl f rfl)<|Jh rfl (Qm rfl) (fun c5 => ?_) (fun c5 => ?_)
   · replace hm := Xw c5 hm
     refine qk rfl<|qk rfl<|qk rfl<|qk rfl<|qk rfl<|qk rfl<|qk rfl<|qk rfl<|qk rfl<|qk rfl<|qk rfl<|qm rfl<|qm rfl<|qv rfl (Qb Cc rfl)<|qv rfl (Qd (v := .bool y5.Full) Sg rfl f rfl)<|qv rfl (Jb rfl)<|Jh rfl (Qm rfl) (fun c9 => ?_) (fun c9 => ?_)
     · replace hm := Xw c9 hm
       refine qk rfl<|qk rfl<|qk rfl<|qm rfl<|qm rfl<|Qh ?_
       exact ⟨rfl, false, Qf, hm, Qz⟩
     replace hm := Xx c9 hm
     refine qv rfl (Qp Yu rfl f rfl)<|qv rfl (Zv (cs := Xg.cs (Xg.mk false 0 k0)) Qdd rfl (by kernel_rfl))<|qv rfl (Gk (cf := Xg.cs) (a := y5) (b := (Xg.mk false 0 k0)) Qmc rfl rfl rfl rfl (fun h => Xg.cs_inj h))<|qm rfl<|qm rfl<|Qh ?_
     exact ⟨rfl, (decide (y5 ≠ (Xg.mk false 0 k0))), Qf, hm, Qz⟩
   replace hm := Xx c5 hm
   refine qv rfl (Qb Cd rfl)<|qv rfl (Qd (v := .int .i64 y5.Epoch) Qv rfl f rfl) ?_
   obtain ⟨x7, M, hm⟩ := Qc hm
   refine qe rfl (eC Qm1 rfl (Qm8 M)) ?_
   rintro _ aa ⟨rfl, g⟩
   refine qv rfl (Jb rfl)<|qp rfl (Qm rfl) (fun c6 => ?_) (fun c6 => ?_)
   · replace hm := Xx c6 hm
     refine qk rfl<|qk rfl<|qk rfl<|qk rfl<|qk rfl<|qm rfl<|qm rfl<|qm rfl<|qk rfl<|qk rfl<|qk rfl<|qk rfl<|qk rfl<|qk rfl<|qk rfl<|qk rfl<|qm rfl<|Qh ?_
     exact ⟨rfl, true, Qf, hm, (Qz.gr g)⟩
   replace hm := Xw c6 hm
   refine qv rfl (Qb Cd rfl) ?_
   have t := (f.gr g)
   refine qv rfl (Qd (v := .int .i64 y5.Epoch) Qv rfl t rfl) ?_
   obtain ⟨x8, N, hm⟩ := Qc hm
   refine qv rfl (Hm (a := y5.Epoch) (b := 2) rfl rfl N)<|qm rfl<|qv rfl (Jw (a := x8) (b := a4) rfl rfl)<|qm rfl<|qm rfl<|qp rfl (Qm rfl) (fun c7 => ?_) (fun c7 => ?_)
   · replace hm := iT c7 hm
     refine qk rfl<|qk rfl<|qk rfl<|qk rfl<|qk rfl<|qk rfl<|qk rfl<|qk rfl<|qm rfl<|Qh ?_
     exact ⟨rfl, true, Qf, hm, (Qz.gr g)⟩
   replace hm := iF c7 hm
   refine qv rfl (Qb Cc rfl)<|qv rfl (Qd (v := .bool y5.Full) Sg rfl t rfl)<|qv rfl (Jb rfl)<|Jh rfl (Qm rfl) (fun c8 => ?_) (fun c8 => ?_)
   · replace hm := Xw c8 hm
     refine qk rfl<|qk rfl<|qk rfl<|qm rfl<|qm rfl<|Qh ?_
     exact ⟨rfl, false, Qf, hm, (Qz.gr g)⟩
   replace hm := Xx c8 hm
   refine qv rfl (Qp Yu rfl t rfl)<|qv rfl (Zv (cs := Xg.cs (Xg.mk false 0 k0)) Qdd rfl (by kernel_rfl))<|qv rfl (Gk (cf := Xg.cs) (a := y5) (b := (Xg.mk false 0 k0)) Qmc rfl rfl rfl rfl (fun h => Xg.cs_inj h))<|qm rfl<|qm rfl<|Qh ?_
   exact ⟨rfl, (decide (y5 ≠ (Xg.mk false 0 k0))), Qf, hm, (Qz.gr g)⟩
 clear hm; rintro a6 w9 ⟨hm, K9⟩
 unfold Nx at hm
 refine Xj rfl (fun c4 => ?_) (fun c4 => ?_)
 · replace hm := Xx c4 hm
   refine qs 1 rfl<|qm rfl<|Qa<|Qo<|Zz<|Zf<|Zf<|Zz<|Zf ?_
   have O := (L.kz K9)
   cases hm
   refine ⟨_, _, rfl, Qt rfl (Qg rfl), ?_⟩
   exact ⟨rfl, O⟩
 replace hm := Xw c4 hm
 refine Vi<|Xy<|Xl<|qg 2 rfl<|qv rfl (Zg (k := .i64) (a := a4) (b := 1) rfl rfl)<|qm rfl<|Qh ?_
 have K_25 : Kz [] w5 w9 := (((K6.gr G7).md M8).kz K9)
 subst s
 exact ⟨rfl, ⟨n2, Qi (a4 + 1)⟩, Qf, ⟨hm, K_25⟩, Nat.lt_succ_self _⟩
theorem Qnx {p0 r} (hm : Ru p0 = some r) {w : World} :
    Calls Tryz.prog 65 [.int .i64 p0].toArray w fun e w' => ∃ v, e = .returned v ∧ (v = .bool r ∧ Gr w w') := by
 unfold Ru at hm
 refine Xe 9 Tryz.func65 rfl rfl rfl<|qs 1 rfl<|qm rfl<|qd 7 rfl<|qm rfl<|qv rfl (Kl (a := p0) (b := 0) rfl rfl)<|qp rfl (Qm rfl) (fun c1 => ?_) (fun c1 => ?_)
 · replace hm := iT c1 hm
   refine qm rfl<|qv rfl (Pf (a := p0) (b := 1099511627776) rfl rfl)<|qm rfl<|qm rfl<|Qa<|Qo ?_
   cases hm
   refine ⟨_, _, rfl, Qt rfl (Qg rfl), ?_⟩
   exact ⟨rfl, (Gr.refl w)⟩
 replace hm := iF c1 hm
 refine qk rfl<|qk rfl<|qm rfl<|qm rfl<|Qa<|Qo ?_
 cases hm
 refine ⟨_, _, rfl, Qt rfl (Qg rfl), ?_⟩
 exact ⟨rfl, (Gr.refl w)⟩
theorem Qu6 {p0 p1 r} (hm : Qcp p0 p1 = some r) {w : World} :
    Calls Tryz.prog 69 [.agg (Xg.cs p0).toArray, .int .i64 p1].toArray w fun e w' => ∃ v, e = .returned v ∧ (v = .bool r ∧ Gr w w') := by
 unfold Qcp at hm
 refine Xe 21 Tryz.func69 rfl rfl rfl<|qs 2 rfl<|qe rfl (Qy (cs := Xg.cs p0) rfl rfl) ?_
 rintro _ w1 ⟨b1, rfl, g, c, G1⟩
 refine qm rfl<|Qa<|Qe<|qs 3 rfl<|qv rfl (Qb Cc rfl)<|qv rfl (Qd (v := .bool p0.Full) Sg rfl c rfl)<|qv rfl (Jb rfl)<|Qa<|Xj rfl (fun c1 => ?_) (fun c1 => ?_)
 · replace hm := Xx c1 hm
   refine qs 4 rfl<|qv rfl (Qp Yu rfl c rfl)<|qv rfl (Zv (cs := Xg.cs (Xg.mk false 0 k0)) Qdd rfl (by kernel_rfl))<|qv rfl (Ss (cf := Xg.cs) (a := p0) (b := (Xg.mk false 0 k0)) Qmc rfl rfl rfl rfl (fun h => Xg.cs_inj h))<|qm rfl<|qb ?_
   have X3 := ((Gr.refl w).trans G1)
   cases hm
   refine ⟨_, _, rfl, Qt rfl (Qg rfl), ?_⟩
   exact ⟨rfl, X3⟩
 replace hm := Xw c1 hm
 refine qu<|qs 11 rfl<|qv rfl (Qb Cd rfl)<|qv rfl (Qd (v := .int .i64 p0.Epoch) Qv rfl c rfl) ?_
 obtain ⟨x1, d, hm⟩ := Qc hm
 refine qe rfl (eC Qm2 rfl (Qnx d)) ?_
 rintro _ w2 ⟨rfl, G2⟩
 refine Jh rfl (Qm rfl) (fun c2 => ?_) (fun c2 => ?_)
 · replace hm := Xw c2 hm
   refine qk rfl<|qk rfl<|qk rfl<|qk rfl<|qk rfl<|qm rfl<|qm rfl<|Qa<|Qo ?_
   have X7 := (((Gr.refl w).trans G1).trans G2)
   cases hm
   refine ⟨_, _, rfl, Qt rfl (Qg rfl), ?_⟩
   exact ⟨rfl, X7⟩
 replace hm := Xx c2 hm
 refine qv rfl (Qb Cd rfl) ?_
 have B5 := (c.gr G2)
 refine qv rfl (Qd (v := .int .i64 p0.Epoch) Qv rfl B5 rfl) ?_
 obtain ⟨x2, f, hm⟩ := Qc hm
 refine qv rfl (Hm (a := p0.Epoch) (b := 2) rfl rfl f)<|qm rfl<|qv rfl (Jr (a := x2) (b := p1) rfl rfl)<|qm rfl<|qm rfl<|Qa<|Qo ?_
 have X6 := (((Gr.refl w).trans G1).trans G2)
 cases hm
 refine ⟨_, _, rfl, Qt rfl (Qg rfl), ?_⟩
 exact ⟨rfl, X6⟩
theorem Qu5 {p0 p1 p2 vp2_1 zp2_1 gp2_1 op2_1 r} (hm : Qck p0 p1 p2 = some r) {w : World} (g : Rd w zp2_1 gp2_1 op2_1 18 vp2_1 (p2.Secret.Labels.map Xn.cs)) :
    Calls Tryz.prog 21 [.agg (Qs.cs p0).toArray, .agg (Za.cs p1).toArray, .agg (Qw.cs p2 vp2_1).toArray].toArray w fun e w' => ∃ v, e = .returned v ∧ (v = .int .i64 r ∧ Gr w w') := by
 unfold Qck at hm
 refine Xe 57 Tryz.func21 rfl rfl rfl<|qs 4 rfl<|qe rfl (Qy (cs := Qs.cs p0) rfl rfl) ?_
 rintro _ w1 ⟨b1, rfl, t, h, G1⟩
 refine qe rfl (Qy (cs := Za.cs p1) rfl rfl) ?_
 rintro _ w2 ⟨b2, rfl, u, i, G2⟩
 refine qe rfl (Qy (cs := Qw.cs p2 vp2_1) rfl rfl) ?_
 rintro _ w3 ⟨b3, rfl, x, j, G3⟩
 refine qm rfl<|Qa<|Qe<|qs 4 rfl ?_
 have B8 := ((h.gr G2).gr G3)
 refine qv rfl (Qp Zw rfl B8 rfl) ?_
 have B9 := (i.gr G3)
 refine qv rfl (Qp Yt rfl B9 rfl) ?_
 obtain ⟨x1, k, hm⟩ := Qc hm
 refine qe rfl (eC Qqz rfl (Qu7 k)) ?_
 rintro _ w4 ⟨rfl, G4⟩
 refine qm rfl<|qd 2 rfl<|qm rfl<|qv rfl (Jw (a := x1) (b := 0) rfl rfl)<|Qa<|Xj rfl (fun c1 => ?_) (fun c1 => ?_)
 · replace hm := iT c1 hm
   refine qs 2 rfl<|qm rfl<|qm rfl<|qb ?_
   have Y1 := Gr.trans (Gr.trans (Gr.trans G1 G2) G3) G4
   have l := ((Gr.refl w).trans Y1)
   cases hm
   refine ⟨_, _, rfl, Qt rfl (Qg rfl), ?_⟩
   exact ⟨rfl, l⟩
 replace hm := iF c1 hm
 refine qu<|Qe ?_
 have Y2 := Gr.trans (Gr.trans (Gr.trans G1 G2) G3) G4
 have d := ((Gr.refl w).trans Y2)
 refine qj (β := Bool) (rg 14 43) (fun a2 => [(56, .bool a2)]) (fun a2 wr => (Ml a2 = some r) ∧ Kz [] w4 wr) ?_ ?_
 · refine qg 43 rfl<|qv rfl (Qb Nb rfl) ?_
   have c := (j.gr G4)
   refine qv rfl (Qd (v := .int .i64 p2.Ahead) Qv rfl c rfl)<|qv rfl (Qb Hf rfl) ?_
   have f := (B9.gr G4)
   refine qv rfl (Qd (v := .int .i64 p1.Drift) Qv rfl f rfl)<|qv rfl (Qke (a := p1.Drift) rfl)<|qv rfl (Zc (a := p2.Ahead) (b := Qi (-p1.Drift)) rfl rfl)<|qp rfl (Qm rfl) (fun c3 => ?_) (fun c3 => ?_)
   · replace hm := iT c3 hm
     refine qk rfl<|qk rfl<|qk rfl<|qk rfl<|qk rfl<|qm rfl<|qm rfl<|qk rfl<|qk rfl<|qk rfl<|qk rfl<|qm rfl<|qm rfl<|qk rfl<|qk rfl<|qk rfl<|qk rfl<|qk rfl<|qk rfl<|qk rfl<|qk rfl<|qm rfl<|qm rfl<|qk rfl<|qk rfl ?_
     refine qk rfl<|qk rfl<|qk rfl<|qm rfl<|qm rfl<|qk rfl<|qk rfl<|qk rfl<|qk rfl<|qk rfl<|qm rfl<|Qh ?_
     exact ⟨rfl, true, Qf, hm, Qz⟩
   replace hm := iF c3 hm
   refine qv rfl (Qb Nb rfl)<|qv rfl (Qd (v := .int .i64 p2.Ahead) Qv rfl c rfl)<|qv rfl (Qb Hf rfl)<|qv rfl (Qd (v := .int .i64 p1.Drift) Qv rfl f rfl)<|qv rfl (Va (a := p2.Ahead) (b := p1.Drift) rfl rfl)<|qm rfl<|qp rfl (Qm rfl) (fun c4 => ?_) (fun c4 => ?_)
   · replace hm := iT c4 hm
     refine qk rfl<|qk rfl<|qk rfl<|qk rfl<|qm rfl<|qm rfl<|qk rfl<|qk rfl<|qk rfl<|qk rfl<|qk rfl<|qk rfl<|qk rfl<|qk rfl<|qm rfl<|qm rfl<|qk rfl<|qk rfl<|qk rfl<|qk rfl<|qk rfl<|qm rfl<|qm rfl<|qk rfl<|qk rfl ?_
     refine qk rfl<|qk rfl<|qk rfl<|qm rfl<|Qh ?_
     exact ⟨rfl, true, Qf, hm, Qz⟩
   replace hm := iF c4 hm
   refine qv rfl (Qb Pp rfl)<|qv rfl (Qb Cb rfl)<|qv rfl (Qd (v := .int .i64 p2.Secret.Receiver) Qv rfl c rfl)<|qv rfl (Zc (a := p2.Secret.Receiver) (b := 0) rfl rfl)<|qm rfl<|qp rfl (Qm rfl) (fun c5 => ?_) (fun c5 => ?_)
   · replace hm := iT c5 hm
     refine qk rfl<|qk rfl<|qk rfl<|qk rfl<|qk rfl<|qk rfl<|qk rfl<|qk rfl<|qm rfl<|qm rfl<|qk rfl<|qk rfl<|qk rfl<|qk rfl<|qk rfl<|qm rfl<|qm rfl<|qk rfl<|qk rfl<|qk rfl<|qk rfl<|qk rfl<|qm rfl<|Qh ?_
     exact ⟨rfl, true, Qf, hm, Qz⟩
   replace hm := iF c5 hm
   refine qv rfl (Qb Pp rfl)<|qv rfl (Qb Cb rfl)<|qv rfl (Qd (v := .int .i64 p2.Secret.Receiver) Qv rfl c rfl)<|qv rfl (Qb Wu rfl) ?_
   have m := (B8.gr G4)
   refine qv rfl (Qd (v := .int .i64 p0.Depth) Qv rfl m rfl)<|qv rfl (Yb Qhy rfl) ?_
   obtain ⟨nn3, hnn3, hm⟩ := Qc hm
   refine qv rfl (Qh7 (a := 1) (b := (un (wd p0.Depth))) rfl rfl hnn3)<|qv rfl (Kl (a := p2.Secret.Receiver) (b := Pc 1 nn3) rfl rfl)<|qm rfl<|qp rfl (Qm rfl) (fun c6 => ?_) (fun c6 => ?_)
   · replace hm := iT c6 hm
     refine qk rfl<|qk rfl<|qk rfl<|qk rfl<|qk rfl<|qm rfl<|qm rfl<|qk rfl<|qk rfl<|qk rfl<|qk rfl<|qk rfl<|qm rfl<|Qh ?_
     exact ⟨rfl, true, Qf, hm, Qz⟩
   replace hm := iF c6 hm
   refine qv rfl (Qb Sa rfl)<|qv rfl (Nq Tryz.underlying55 (Yu).siz rfl rfl (by decide) (by decide))<|qv rfl (Zy (vs := Xg.cs p2.Slots.a0) Yu rfl c rfl rfl) ?_
   obtain ⟨x4, n, hm⟩ := Qc hm
   refine qe rfl (eC Qr0 rfl (Qu6 n)) ?_
   rintro _ w6 ⟨rfl, G6⟩
   refine qv rfl (Jb rfl)<|qm rfl<|qp rfl (Qm rfl) (fun c7 => ?_) (fun c7 => ?_)
   · replace hm := Xx c7 hm
     refine qk rfl<|qk rfl<|qk rfl<|qk rfl<|qk rfl<|qm rfl<|Qh ?_
     exact ⟨rfl, true, Qf, hm, (Qz.gr G6)⟩
   replace hm := Xw c7 hm
   refine qv rfl (Qb Sa rfl)<|qv rfl (Nq Tryz.underlying55 (Yu).siz rfl rfl (by decide) (by decide)) ?_
   have o := (c.gr G6)
   refine qv rfl (Zy (vs := Xg.cs p2.Slots.a1) Yu rfl o rfl rfl) ?_
   obtain ⟨x5, p, hm⟩ := Qc hm
   refine qe rfl (eC Qr0 rfl (Qu6 p)) ?_
   rintro _ w7 ⟨rfl, G7⟩
   refine qv rfl (Jb rfl)<|qm rfl<|Qh ?_
   exact ⟨rfl, (!x5), Qf, hm, ((Qz.gr G6).gr G7)⟩
 clear hm; rintro a2 w5 ⟨hm, K5⟩
 unfold Ml at hm
 refine Xj rfl (fun c2 => ?_) (fun c2 => ?_)
 · replace hm := Xx c2 hm
   refine qs 1 rfl<|qm rfl<|qb ?_
   have q := (d.kz K5)
   cases hm
   refine ⟨_, _, rfl, Qt rfl (Qg rfl), ?_⟩
   exact ⟨rfl, q⟩
 replace hm := Xw c2 hm
 refine qu<|qs 1 rfl<|qm rfl<|Qa<|Qo ?_
 have s := (d.kz K5)
 cases hm
 refine ⟨_, _, rfl, Qt rfl (Qg rfl), ?_⟩
 exact ⟨rfl, s⟩
theorem Qr3 {p0 p1 p2 vp1_1 zp1_1 gp1_1 op1_1 vp2_0 zp2_0 gp2_0 op2_0 vp2_2 zp2_2 gp2_2 op2_2 r} (hm : Qec p0 p1 p2 = some r) {w : World} (z : Rd w zp1_1 gp1_1 op1_1 18 vp1_1 (p1.Labels.map Xn.cs)) (A : Rd w zp2_0 gp2_0 op2_0 18 vp2_0 (p2.Items.map Zd.cs)) (B : Rd w zp2_2 gp2_2 op2_2 2 vp2_2 (p2.Points.map Qu.cs)) :
    Calls Tryz.prog 37 [.agg (Qs.cs p0).toArray, .agg (Qq.cs p1 vp1_1).toArray, .agg (Zi.cs p2 vp2_0 vp2_2).toArray].toArray w fun e w' => ∃ v, e = .returned v ∧ (v = .tuple [kv r.1, .int .i64 r.2].toArray ∧ Gr w w') := by
 have n := z.lth
 have o := A.lth
 have s := B.lth
 unfold Qec at hm
 refine Xe 27 Tryz.func37 rfl rfl rfl<|qs 5 rfl<|qe rfl (Qy (cs := Qs.cs p0) rfl rfl) ?_
 rintro _ w1 ⟨b1, rfl, bp, U, G1⟩
 have bL := U.lt
 refine qe rfl (Qy (cs := Qq.cs p1 vp1_1) rfl rfl) ?_
 rintro _ w2 ⟨b2, rfl, bq, L, G2⟩
 have bM := L.lt
 refine qe rfl (Qy (cs := Zi.cs p2 vp2_0 vp2_2) rfl rfl) ?_
 rintro _ w3 ⟨b3, rfl, br, M, G3⟩
 have bN := M.lt
 refine qe rfl (Xh (cs := kb k0) Zh rfl) ?_
 rintro _ w4 ⟨b4, rfl, bs, C, G4⟩
 have bu := C.lt
 refine qm rfl<|qd 8 rfl ?_
 have Y1 := Gr.trans (Gr.trans G2 G3) G4
 have N := (U.gr Y1)
 refine qv rfl (Qp Zw rfl N rfl)<|Qob 33 Tryz.func85 rfl rfl rfl Qm3 rfl rfl rfl rfl rfl<|qs 3 rfl<|qe rfl (Qy (cs := Qs.cs p0) rfl rfl) ?_
 rintro _ w5 ⟨b5, rfl, bx, O, G5⟩
 have bz := O.lt
 refine qe rfl (Xh (cs := [.nilFunc, .nilFunc, .nilFunc, .nilFunc]) Ww rfl) ?_
 rintro _ w6 ⟨b6, rfl, bA, E, G6⟩
 have bB := E.lt
 refine qm rfl<|qd 3 rfl<|qv rfl (Zv (cs := [.func (.func 128) #[] #[], .func (.func 129) #[] #[], .func (.func 130) #[] #[], .func (.func 131) #[] #[]]) Gp rfl rfl)<|qe rfl (Xh (cs := [.nilFunc, .nilFunc, .nilFunc, .nilFunc]) Ww rfl) ?_
 rintro _ w7 ⟨b7, rfl, bC, V, G7⟩
 have bD := V.lt
 refine qe rfl (Qx Je rfl rfl rfl V rfl rfl) ?_
 rintro _ w8 ⟨P, M8⟩
 have bO := M8.size
 refine qd 8 rfl<|qv rfl (Zv (cs := [.nilFunc, .nilFunc, .nilFunc, .nilFunc]) Gp rfl rfl)<|qv rfl (Zy (vs := [.func (.func 128) #[] #[], .func (.func 129) #[] #[], .func (.func 130) #[] #[], .func (.func 131) #[] #[]]) Je rfl P rfl rfl)<|qv rfl (Zy (vs := [.func (.func 128) #[] #[], .func (.func 129) #[] #[], .func (.func 130) #[] #[], .func (.func 131) #[] #[]]) Je rfl P rfl rfl)<|qv rfl (Zy (vs := [.func (.func 128) #[] #[], .func (.func 129) #[] #[], .func (.func 130) #[] #[], .func (.func 131) #[] #[]]) Je rfl P rfl rfl)<|qv rfl (Zv (cs := [.func (.func 132) #[] #[], .func (.func 133) #[] #[], .func (.func 134) #[] #[], .func (.func 135) #[] #[]]) Gp rfl rfl)<|qv rfl (Qok (cs := [.nilFunc, .nilFunc, .nilFunc, .nilFunc, .func (.func 128) #[] #[], .func (.func 129) #[] #[], .func (.func 130) #[] #[], .func (.func 131) #[] #[], .func (.func 128) #[] #[], .func (.func 129) #[] #[], .func (.func 130) #[] #[], .func (.func 131) #[] #[], .func (.func 128) #[] #[], .func (.func 129) #[] #[], .func (.func 130) #[] #[], .func (.func 131) #[] #[], .func (.func 132) #[] #[], .func (.func 133) #[] #[], .func (.func 134) #[] #[], .func (.func 135) #[] #[]]) Qko rfl rfl)<|qe rfl (Xh (cs := [.nilFunc, .nilFunc, .nilFunc, .nilFunc, .nilFunc, .nilFunc, .nilFunc, .nilFunc, .nilFunc, .nilFunc, .nilFunc, .nilFunc, .nilFunc, .nilFunc, .nilFunc, .nilFunc, .nilFunc, .nilFunc, .nilFunc, .nilFunc]) Qkj rfl) ?_
 rintro _ w9 ⟨b9, rfl, bE, W, G9⟩
 have bF := W.lt
 refine qe rfl (Qx Qkm rfl rfl rfl W rfl rfl) ?_
 rintro _ av ⟨I, d⟩
 have bP := d.size
 refine Qa<|Qe ?_
 have Y2 := Gr.trans (Gr.trans (Gr.trans (Gr.trans G1 Y1) G5) G6) G7
 have D := (((((Gr.refl w).trans Y2).md M8).trans G9).md d)
 refine qj (β := Bool) (rg 14 9) (fun a1 => [(22, .bool a1)]) (fun a1 wr => (Qar p0 p1 p2 a1 = some r) ∧ Kz [] av wr) ?_ ?_
 · refine qg 9 rfl<|qv rfl (Qb Yg rfl) ?_
   have Y3 := Gr.trans G6 G7
   have X := ((((O.gr Y3).md M8).gr G9).md d)
   refine qv rfl (Qd (v := bv p0.Kind) Xs rfl X rfl)<|qv rfl (Qh6 (p := p0.Kind) (q := 1#8) rfl rfl)<|qp rfl (Qm rfl) (fun c6 => ?_) (fun c6 => ?_)
   · replace hm := iT c6 hm
     refine qk rfl<|qk rfl<|qk rfl<|qk rfl<|qm rfl<|Qh ?_
     exact ⟨rfl, true, Qf, hm, Qz⟩
   replace hm := iF c6 hm
   refine qv rfl (Qb Yg rfl)<|qv rfl (Qd (v := bv p0.Kind) Xs rfl X rfl)<|qv rfl (Qh1 Tg rfl)<|qv rfl (Kl (a := Xf p0.Kind) (b := 5) rfl rfl)<|qm rfl<|Qh ?_
   exact ⟨rfl, (decide ((5 : Int) ≤ Xf p0.Kind)), Qf, hm, Qz⟩
 clear hm; rintro a1 bQ ⟨hm, c⟩
 have bR := c.size
 unfold Qar at hm
 refine Xj rfl (fun c1 => ?_) (fun c1 => ?_)
 · replace hm := Xx c1 hm
   refine qs 3 rfl<|qv rfl (Zv (cs := [.nilFunc, .nilFunc, .nilFunc, .nilFunc]) Gp rfl rfl) ?_
   have aw := (((((E.gr G7).md M8).gr G9).md d).kz c)
   refine qe rfl (Qx Je rfl rfl rfl aw rfl rfl) ?_
   rintro _ bS ⟨Y, Q⟩
   have bT := Q.size
   refine qm rfl<|qb<|⟨_, _, rfl, Zb rfl (Xr Je rfl Y rfl) (Qg rfl), ?_⟩
   refine qm rfl<|qm rfl<|qm rfl<|qe rfl (Xh (cs := [.nilFunc, .nilFunc, .nilFunc, .nilFunc]) Ww rfl) ?_
   rintro _ bU ⟨bV, rfl, ax, Z, aa⟩
   refine qe rfl (Qx Je rfl rfl rfl Z rfl rfl) ?_
   rintro _ bW ⟨bG, ab⟩
   refine qm rfl<|Qa<|Qe<|qs 2 rfl<|qm rfl<|qv rfl (Jw (a := 2) (b := 0) rfl rfl)<|Qa<|Ry rfl<|qs 4 rfl<|qv rfl (Vz Vt)<|qm rfl ?_
   have Y4 := Gr.trans (Gr.trans G5 G6) G7
   have ay := ((((((((C.gr Y4).md M8).gr G9).md d).kz c).md Q).gr aa).md ab)
   refine qe rfl (Qx Ql rfl rfl rfl ay rfl rfl) ?_
   rintro _ bX ⟨ac, az⟩
   refine qm rfl<|qb ?_
   have aA := (((((D.kz c).md Q).trans aa).md ab).md az)
   cases hm
   refine ⟨_, _, rfl, Zb rfl (Xr Ql rfl ac rfl) (Qg rfl), ?_⟩
   exact ⟨rfl, aA⟩
 replace hm := Xw c1 hm
 refine qu<|qs 6 rfl<|qv rfl (Qb Yg rfl) ?_
 have Y5 := Gr.trans G6 G7
 have R := (((((O.gr Y5).md M8).gr G9).md d).kz c)
 refine qv rfl (Qd (v := bv p0.Kind) Xs rfl R rfl) ?_
 by_cases c2 : (Xf p0.Kind = 1 ∨ Xf p0.Kind = 2 ∨ Xf p0.Kind = 3)
 · replace hm := Ez c2 hm
   refine qv rfl (Qd3 Tryz.underlying228 (Je).siz rfl rfl (by omega)) ?_
   have aB := (I.kz c)
   refine qv rfl (Zy (vs := [.func (.func 128) #[] #[], .func (.func 129) #[] #[], .func (.func 130) #[] #[], .func (.func 131) #[] #[]]) Je rfl aB (by rcases c2 with h | h | h <;> rw [h] <;> rfl) rfl)<|qe rfl (Xh (cs := [.nilFunc, .nilFunc, .nilFunc, .nilFunc]) Ww rfl) ?_
   rintro _ bY ⟨bZ, rfl, aC, J, k⟩
   have bH := J.lt
   refine qe rfl (Qx Je rfl rfl rfl J rfl rfl) ?_
   rintro _ b0 ⟨ad, f⟩
   have b8 := f.size
   refine Qa<|Qe<|dw [([b6])] [] (.leaf [(0,10),(1,10),(2,10),(3,10),(4,0),(5,0),(6,10)]) ?_
   intro aD S bI
   refine Zj ?_
   have ae := (ad.gr S)
   refine dh 0 rfl rfl (fun w hS => Zy (vs := [.func (.func 128) #[] #[], .func (.func 129) #[] #[], .func (.func 130) #[] #[], .func (.func 131) #[] #[]]) Je rfl (Bx.kp ae hS) rfl rfl)<|dh 0 rfl rfl (fun w hS => Qb Qb4 rfl)<|dh 0 rfl rfl (fun w hS => Qd (v := .func (.func 128) #[] #[]) Ag rfl (Bx.kp ae hS) rfl) ?_
   have aE := (((R.gr k).md f).gr S)
   refine dh 0 rfl rfl (fun w hS => Qp Zw rfl (Bx.kp aE hS) rfl) ?_
   obtain ⟨x2, aF, hm⟩ := Qc hm
   refine qz [] rfl (Dg Qlh rfl rfl (Qky aF)) ⟨fun _ => Qj, trivial⟩ ?_
   rintro _ ca ⟨rfl, F⟩
   have cb := F.size
   refine kG F ?_
   have Y6 := Gr.trans S F
   have aG := ((((((((E.gr G7).md M8).gr G9).md d).kz c).gr k).md f).gr Y6)
   refine qz [(1, b6)] rfl (Qx Je rfl rfl rfl aG rfl rfl) ⟨fun _ => Qj, trivial⟩ ?_
   rintro _ cc ⟨af, g⟩
   have cd := g.size
   refine kM g ?_
   have aH := (((Kp.refl ([b6]) aD).gr F).md g)
   refine dn 0 rfl rfl aH<|Qa<|Qo<|⟨_, _, rfl, Zb rfl (Xr Je rfl af rfl) (Qg rfl), ?_⟩
   refine qm rfl<|qm rfl<|qm rfl<|qe rfl (Xh (cs := [.nilFunc, .nilFunc, .nilFunc, .nilFunc]) Ww rfl) ?_
   rintro _ ce ⟨cf, rfl, aI, ag, t⟩
   refine qe rfl (Qx Je rfl rfl rfl ag rfl rfl) ?_
   rintro _ cg ⟨ah, u⟩
   refine qm rfl<|Qa<|Qe<|qs 2 rfl<|qm rfl<|qv rfl (Jw (a := x2) (b := 0) rfl rfl)<|Qa<|Xj rfl (fun c3 => ?_) (fun c3 => ?_)
   · replace hm := iT c3 hm
     refine qs 4 rfl<|qv rfl (Vz Vt)<|qm rfl ?_
     have Y7 := Gr.trans G5 Y5
     have aJ := (((((((((((C.gr Y7).md M8).gr G9).md d).kz c).gr k).md f).gr Y6).md g).gr t).md u)
     refine qe rfl (Qx Ql rfl rfl rfl aJ rfl rfl) ?_
     rintro _ ch ⟨ai, aK⟩
     refine qm rfl<|qb ?_
     have aL := ((((((((D.kz c).trans k).md f).trans Y6).md g).trans t).md u).md aK)
     cases hm
     refine ⟨_, _, rfl, Zb rfl (Xr Ql rfl ai rfl) (Qg rfl), ?_⟩
     exact ⟨rfl, aL⟩
   replace hm := iF c3 hm
   refine qu<|qs 10 rfl<|qv rfl (Qb Qrh rfl)<|qv rfl (Qd (v := .func (.func 130) #[] #[]) Qn4 rfl ah rfl) ?_
   have Y8 := Gr.trans G5 Y5
   have aM := (((((((((((N.gr Y8).md M8).gr G9).md d).kz c).gr k).md f).gr Y6).md g).gr t).md u)
   refine qv rfl (Qp Zw rfl aM rfl) ?_
   have Y9 := Gr.trans (Gr.trans G3 G4) Y8
   have aN := (((((((((((L.gr Y9).md M8).gr G9).md d).kz c).gr k).md f).gr Y6).md g).gr t).md u)
   refine qv rfl (Qp Jc rfl aN rfl) ?_
   have aO := Gr.trans G4 Y8
   have aP := (((((((((((M.gr aO).md M8).gr G9).md d).kz c).gr k).md f).gr Y6).md g).gr t).md u)
   refine qv rfl (Qp Gn rfl aP rfl) ?_
   have aQ := (((((((((((z.gr Y2).md M8 (Xd n)).gr G9).md d (Xd n)).kz c).gr k).md f (Xd n)).gr Y6).md g (Xd n)).gr t).md u (Xd n))
   have aR := (((((((((((A.gr Y2).md M8 (Xd o)).gr G9).md d (Xd o)).kz c).gr k).md f (Xd o)).gr Y6).md g (Xd o)).gr t).md u (Xd o))
   have aS := (((((((((((B.gr Y2).md M8 (Xd s)).gr G9).md d (Xd s)).kz c).gr k).md f (Xd s)).gr Y6).md g (Xd s)).gr t).md u (Xd s))
   obtain ⟨x3, aT, hm⟩ := Qc hm
   refine qe rfl (Dg Qy5 rfl rfl (Qwz aT aQ aR aS)) ?_
   rintro _ ci ⟨rfl, aj⟩
   refine qm rfl<|qm rfl ?_
   have aU := ((((((((((((C.gr Y8).md M8).gr G9).md d).kz c).gr k).md f).gr Y6).md g).gr t).md u).gr aj)
   refine qe rfl (Qx Ql rfl rfl rfl aU rfl rfl) ?_
   rintro _ cj ⟨ak, aV⟩
   refine qm rfl<|Qa<|Qo ?_
   have aW := (((((((((D.kz c).trans k).md f).trans Y6).md g).trans t).md u).trans aj).md aV)
   cases hm
   refine ⟨_, _, rfl, Zb rfl (Xr Ql rfl ak rfl) (Qg rfl), ?_⟩
   exact ⟨rfl, aW⟩
 replace hm := Ey c2 hm
 by_cases c4 : (Xf p0.Kind = 4)
 · replace hm := Ez c4 hm
   refine qv rfl (Qd3 Tryz.underlying228 (Je).siz rfl rfl (by omega)) ?_
   have aX := (I.kz c)
   refine qv rfl (Zy (vs := [.func (.func 132) #[] #[], .func (.func 133) #[] #[], .func (.func 134) #[] #[], .func (.func 135) #[] #[]]) Je rfl aX (by rw [c4]; rfl) rfl)<|qe rfl (Xh (cs := [.nilFunc, .nilFunc, .nilFunc, .nilFunc]) Ww rfl) ?_
   rintro _ ck ⟨cl, rfl, aY, K, l⟩
   have bJ := K.lt
   refine qe rfl (Qx Je rfl rfl rfl K rfl rfl) ?_
   rintro _ cm ⟨al, i⟩
   have cn := i.size
   refine Qa<|Qe<|dw [([b6])] [] (.leaf [(0,10),(1,10),(2,10),(3,10),(4,0),(5,0),(6,10)]) ?_
   intro aZ T bK
   refine Zj ?_
   have am := (al.gr T)
   refine dh 0 rfl rfl (fun w hS => Zy (vs := [.func (.func 132) #[] #[], .func (.func 133) #[] #[], .func (.func 134) #[] #[], .func (.func 135) #[] #[]]) Je rfl (Bx.kp am hS) rfl rfl)<|dh 0 rfl rfl (fun w hS => Qb Qb4 rfl)<|dh 0 rfl rfl (fun w hS => Qd (v := .func (.func 132) #[] #[]) Ag rfl (Bx.kp am hS) rfl) ?_
   have a0 := (((R.gr l).md i).gr T)
   refine dh 0 rfl rfl (fun w hS => Qp Zw rfl (Bx.kp a0 hS) rfl) ?_
   obtain ⟨x4, a2, hm⟩ := Qc hm
   refine qz [] rfl (Dg Qli rfl rfl (Qna a2)) ⟨fun _ => Qj, trivial⟩ ?_
   rintro _ co ⟨rfl, G⟩
   have cp := G.size
   refine kG G ?_
   have m := Gr.trans T G
   have a3 := ((((((((E.gr G7).md M8).gr G9).md d).kz c).gr l).md i).gr m)
   refine qz [(1, b6)] rfl (Qx Je rfl rfl rfl a3 rfl rfl) ⟨fun _ => Qj, trivial⟩ ?_
   rintro _ cq ⟨an, j⟩
   have cr := j.size
   refine kM j ?_
   have a4 := (((Kp.refl ([b6]) aZ).gr G).md j)
   refine dn 0 rfl rfl a4<|Qa<|Qo<|⟨_, _, rfl, Zb rfl (Xr Je rfl an rfl) (Qg rfl), ?_⟩
   refine qm rfl<|qm rfl<|qm rfl<|qe rfl (Xh (cs := [.nilFunc, .nilFunc, .nilFunc, .nilFunc]) Ww rfl) ?_
   rintro _ ct ⟨cu, rfl, a5, ao, x⟩
   refine qe rfl (Qx Je rfl rfl rfl ao rfl rfl) ?_
   rintro _ cv ⟨ap, y⟩
   refine qm rfl<|Qa<|Qe<|qs 2 rfl<|qm rfl<|qv rfl (Jw (a := x4) (b := 0) rfl rfl)<|Qa<|Xj rfl (fun c5 => ?_) (fun c5 => ?_)
   · replace hm := iT c5 hm
     refine qs 4 rfl<|qv rfl (Vz Vt)<|qm rfl ?_
     have a6 := Gr.trans G5 Y5
     have a7 := (((((((((((C.gr a6).md M8).gr G9).md d).kz c).gr l).md i).gr m).md j).gr x).md y)
     refine qe rfl (Qx Ql rfl rfl rfl a7 rfl rfl) ?_
     rintro _ cw ⟨aq, a8⟩
     refine qm rfl<|qb ?_
     have a9 := ((((((((D.kz c).trans l).md i).trans m).md j).trans x).md y).md a8)
     cases hm
     refine ⟨_, _, rfl, Zb rfl (Xr Ql rfl aq rfl) (Qg rfl), ?_⟩
     exact ⟨rfl, a9⟩
   replace hm := iF c5 hm
   refine qu<|qs 10 rfl<|qv rfl (Qb Qrh rfl)<|qv rfl (Qd (v := .func (.func 134) #[] #[]) Qn4 rfl ap rfl) ?_
   have H := Gr.trans G5 Y5
   have ba := (((((((((((N.gr H).md M8).gr G9).md d).kz c).gr l).md i).gr m).md j).gr x).md y)
   refine qv rfl (Qp Zw rfl ba rfl) ?_
   have bb := Gr.trans (Gr.trans G3 G4) H
   have bd := (((((((((((L.gr bb).md M8).gr G9).md d).kz c).gr l).md i).gr m).md j).gr x).md y)
   refine qv rfl (Qp Jc rfl bd rfl) ?_
   have bf := Gr.trans G4 H
   have bg := (((((((((((M.gr bf).md M8).gr G9).md d).kz c).gr l).md i).gr m).md j).gr x).md y)
   refine qv rfl (Qp Gn rfl bg rfl) ?_
   have bh := (((((((((((z.gr Y2).md M8 (Xd n)).gr G9).md d (Xd n)).kz c).gr l).md i (Xd n)).gr m).md j (Xd n)).gr x).md y (Xd n))
   have bi := (((((((((((A.gr Y2).md M8 (Xd o)).gr G9).md d (Xd o)).kz c).gr l).md i (Xd o)).gr m).md j (Xd o)).gr x).md y (Xd o))
   have bj := (((((((((((B.gr Y2).md M8 (Xd s)).gr G9).md d (Xd s)).kz c).gr l).md i (Xd s)).gr m).md j (Xd s)).gr x).md y (Xd s))
   obtain ⟨x5, bk, hm⟩ := Qc hm
   refine qe rfl (Dg Qy7 rfl rfl (Xdu bk bh bi bj)) ?_
   rintro _ cx ⟨rfl, ar⟩
   refine qm rfl<|qm rfl ?_
   have bl := ((((((((((((C.gr H).md M8).gr G9).md d).kz c).gr l).md i).gr m).md j).gr x).md y).gr ar)
   refine qe rfl (Qx Ql rfl rfl rfl bl rfl rfl) ?_
   rintro _ cy ⟨au, bm⟩
   refine qm rfl<|Qa<|Qo ?_
   have bo := (((((((((D.kz c).trans l).md i).trans m).md j).trans x).md y).trans ar).md bm)
   cases hm
   refine ⟨_, _, rfl, Zb rfl (Xr Ql rfl au rfl) (Qg rfl), ?_⟩
   exact ⟨rfl, bo⟩
 replace hm := Ey c4 hm
 cases hm
theorem Xf8 {p0 p1 p2 vp1_1 zp1_1 gp1_1 op1_1 vp2_0 zp2_0 gp2_0 op2_0 vp2_2 zp2_2 gp2_2 op2_2 r} (hm : Qgd p0 p1 p2 = some r) {w : World} (c : Rd w zp1_1 gp1_1 op1_1 18 vp1_1 (p1.Labels.map Xn.cs)) (d : Rd w zp2_0 gp2_0 op2_0 18 vp2_0 (p2.Items.map Zd.cs)) (f : Rd w zp2_2 gp2_2 op2_2 2 vp2_2 (p2.Points.map Qu.cs)) :
    Calls Tryz.prog 124 [.agg (Qs.cs p0).toArray, .agg (Qq.cs p1 vp1_1).toArray, .agg (Zi.cs p2 vp2_0 vp2_2).toArray].toArray w fun e w' => ∃ v, e = .returned v ∧ (v = .tuple [kv r.1, .int .i64 r.2].toArray ∧ Gr w w') := by
 unfold Qgd at hm
 refine Xe 30 Tryz.func124 rfl rfl rfl<|qs 5 rfl<|qe rfl (Qy (cs := Qs.cs p0) rfl rfl) ?_
 rintro _ w1 ⟨b1, rfl, O, k, G1⟩
 have S := k.lt
 refine qe rfl (Qy (cs := Qq.cs p1 vp1_1) rfl rfl) ?_
 rintro _ w2 ⟨b2, rfl, P, g, G2⟩
 have T := g.lt
 refine qe rfl (Qy (cs := Zi.cs p2 vp2_0 vp2_2) rfl rfl) ?_
 rintro _ w3 ⟨b3, rfl, Q, h, G3⟩
 have U := h.lt
 refine qe rfl (Xh (cs := kb k0) Zh rfl) ?_
 rintro _ w4 ⟨b4, rfl, R, i, G4⟩
 refine qm rfl<|Qa<|Qe<|qs 3 rfl ?_
 have Y1 := Gr.trans (Gr.trans G2 G3) G4
 have l := (k.gr Y1)
 refine qv rfl (Qp Zw rfl l rfl) ?_
 obtain ⟨x1, n, hm⟩ := Qc hm
 refine qe rfl (eC Qm4 rfl (Qnv n)) ?_
 rintro _ w5 ⟨rfl, G5⟩
 refine qm rfl<|qd 2 rfl<|qm rfl<|qv rfl (Jw (a := x1) (b := 0) rfl rfl)<|Qa<|Xj rfl (fun c1 => ?_) (fun c1 => ?_)
 · replace hm := iT c1 hm
   refine qs 4 rfl<|qv rfl (Vz Vt)<|qm rfl ?_
   have o := (i.gr G5)
   refine qe rfl (Qx Ql rfl rfl rfl o rfl rfl) ?_
   rintro _ w6 ⟨s, M6⟩
   refine qm rfl<|qb ?_
   have Y2 := Gr.trans (Gr.trans G1 Y1) G5
   have t := (((Gr.refl w).trans Y2).md M6)
   cases hm
   refine ⟨_, _, rfl, Zb rfl (Xr Ql rfl s rfl) (Qg rfl), ?_⟩
   exact ⟨rfl, t⟩
 replace hm := iF c1 hm
 refine qu<|Qe<|qs 3 rfl<|qv rfl (Qb Yg rfl) ?_
 have j := (l.gr G5)
 refine qv rfl (Qd (v := bv p0.Kind) Xs rfl j rfl)<|qv rfl (Yz (p := p0.Kind) (q := 4#8) rfl rfl)<|Qa<|Xj rfl (fun c2 => ?_) (fun c2 => ?_)
 · replace hm := iT c2 hm
   refine qs 8 rfl<|qv rfl (Qp Zw rfl j rfl) ?_
   have Y3 := Gr.trans (Gr.trans G3 G4) G5
   have u := (g.gr Y3)
   refine qv rfl (Qp Jc rfl u rfl) ?_
   have Y4 := Gr.trans G4 G5
   have x := (h.gr Y4)
   refine qv rfl (Qp Gn rfl x rfl) ?_
   have Y5 := Gr.trans (Gr.trans G1 Y1) G5
   have y := (c.gr Y5)
   have z := (d.gr Y5)
   have A := (f.gr Y5)
   obtain ⟨x2, B, hm⟩ := Qc hm
   refine qe rfl (eC Qyi rfl (Xey B y z A)) ?_
   rintro _ w7 ⟨rfl, G7⟩
   refine qm rfl<|qm rfl ?_
   have C := ((i.gr G5).gr G7)
   refine qe rfl (Qx Ql rfl rfl rfl C rfl rfl) ?_
   rintro _ w8 ⟨D, M8⟩
   refine qm rfl<|qb ?_
   have E := ((((Gr.refl w).trans Y5).trans G7).md M8)
   cases hm
   refine ⟨_, _, rfl, Zb rfl (Xr Ql rfl D rfl) (Qg rfl), ?_⟩
   exact ⟨rfl, E⟩
 replace hm := iF c2 hm
 refine qu<|qs 8 rfl<|qv rfl (Qp Zw rfl j rfl) ?_
 have Y6 := Gr.trans (Gr.trans G3 G4) G5
 have F := (g.gr Y6)
 refine qv rfl (Qp Jc rfl F rfl) ?_
 have Y7 := Gr.trans G4 G5
 have G := (h.gr Y7)
 refine qv rfl (Qp Gn rfl G rfl) ?_
 have Y8 := Gr.trans (Gr.trans G1 Y1) G5
 have H := (c.gr Y8)
 have I := (d.gr Y8)
 have J := (f.gr Y8)
 obtain ⟨x3, K, hm⟩ := Qc hm
 refine qe rfl (eC Qyj rfl (Xen K H I J)) ?_
 rintro _ w9 ⟨rfl, G9⟩
 refine qm rfl<|qm rfl ?_
 have L := ((i.gr G5).gr G9)
 refine qe rfl (Qx Ql rfl rfl rfl L rfl rfl) ?_
 rintro _ V ⟨m, M⟩
 refine qm rfl<|Qa<|Qo ?_
 have N := ((((Gr.refl w).trans Y8).trans G9).md M)
 cases hm
 refine ⟨_, _, rfl, Zb rfl (Xr Ql rfl m rfl) (Qg rfl), ?_⟩
 exact ⟨rfl, N⟩
end Go.Proofs.YtgdojjniakpadaaGreat.Mx
