/- Walks that follow mirrors: Uf. Printed by mx.py. -/
import Derived.Test.YtgdojjniakpadaaGreatUe
import Derived.Test.YtgdojjniakpadaaGreatZd
set_option linter.unusedVariables false
set_option linter.unusedSimpArgs false
set_option maxRecDepth 100000
set_option maxHeartbeats 2000000
namespace Go.Proofs.YtgdojjniakpadaaGreat.Mx
open Go Go.RowKit Go.Sx
theorem Qqc : En Tryz.prog 20 := fun _ _ => by kernel_rfl
theorem Dm : Ky Tryz.prog 38 56 := fun _ => ⟨by kernel_rfl, by kernel_rfl⟩
theorem Xin : ZV Tryz.prog 36 (.agg [.slice none 0 0, .int .u64 0, .slice none 0 0, .int .u8 0, .int .u8 0, .int .u8 0, .int .u8 0, .int .u8 0, .int .u8 0, .int .u8 0, .int .u8 0, .int .u8 0, .int .u8 0, .int .u8 0, .int .u8 0, .int .u8 0, .int .u8 0, .int .u8 0, .int .u8 0, .int .u8 0, .int .u8 0, .int .u8 0, .int .u8 0, .int .u8 0, .int .u8 0, .int .u8 0, .int .u8 0, .int .u8 0, .int .u8 0, .int .u8 0, .int .u8 0, .int .u8 0, .int .u8 0, .int .u8 0, .int .u8 0].toArray) := fun _ => by kernel_rfl
theorem Fl : FA Tryz.prog 38 0 0 := fun _ _ _ => by kernel_rfl
theorem Pn : FA Tryz.prog 38 1 1 := fun _ _ _ => by kernel_rfl
theorem Ca : FA Tryz.prog 38 3 37 := fun _ _ _ => by kernel_rfl
theorem Qb7 : FA Tryz.prog 38 4 38 := fun _ _ _ => by kernel_rfl
theorem Qxy : En Tryz.prog 120 := fun _ _ => by kernel_rfl
theorem Qzz : En Tryz.prog 59 := fun _ _ => by kernel_rfl
theorem Xa0 : En Tryz.prog 61 := fun _ _ => by kernel_rfl
theorem Qq4 : En Tryz.prog 126 := fun _ _ => by kernel_rfl
theorem Xa8 : En Tryz.prog 72 := fun _ _ => by kernel_rfl
theorem Qqx : En Tryz.prog 37 := fun _ _ => by kernel_rfl
theorem Xij : ZV Tryz.prog 214 (.agg [.slice none 0 0].toArray) := fun _ => by kernel_rfl
theorem Qwe : BS Tryz.prog 214 (fun i => [(0, 1)][i]?) [.slice none 0 0] := Tv Tryz.underlying214 Xij ⟨rfl, (Hj).siz, trivial⟩
theorem Qb5 : FA Tryz.prog 214 0 0 := fun _ _ _ => by kernel_rfl
theorem Gw : En Tryz.prog 112 := fun _ _ => by kernel_rfl
theorem Qlg : En Tryz.prog 113 := fun _ _ => by kernel_rfl
theorem Qxr : En Tryz.prog 111 := fun _ _ => by kernel_rfl
theorem Qi2 : En Tryz.prog 107 := fun _ _ => by kernel_rfl
theorem Qxq : En Tryz.prog 110 := fun _ _ => by kernel_rfl
theorem Qxp : En Tryz.prog 109 := fun _ _ => by kernel_rfl
theorem Qe9 : En Tryz.prog 52 := fun _ _ => by kernel_rfl
theorem Ek : En Tryz.prog 51 := fun _ _ => by kernel_rfl
theorem Qie : FA Tryz.prog 38 6 40 := fun _ _ _ => by kernel_rfl
theorem Qzu : En Tryz.prog 44 := fun _ _ => by kernel_rfl
theorem Xa1 : En Tryz.prog 62 := fun _ _ => by kernel_rfl
theorem Xa7 : En Tryz.prog 71 := fun _ _ => by kernel_rfl
theorem Qrj : FA Tryz.prog 54 2 2 := fun _ _ _ => by kernel_rfl
theorem Qzw : En Tryz.prog 49 := fun _ _ => by kernel_rfl
theorem Qdc : BS Tryz.prog 278 (fun i => [(0, 1), (1, 1)][i]?) [.int .u64 0, .int .u64 0] := Tv Tryz.underlying278 Nt ⟨rfl, (Xm).siz, rfl, (Xm).siz, trivial⟩
theorem Qe3 : En Tryz.prog 190 := fun _ _ => by kernel_rfl
theorem Qlf : En Tryz.prog 108 := fun _ _ => by kernel_rfl
theorem Qzx : En Tryz.prog 50 := fun _ _ => by kernel_rfl
theorem Xa2 : En Tryz.prog 63 := fun _ _ => by kernel_rfl
theorem Qqe : En Tryz.prog 21 := fun _ _ => by kernel_rfl
theorem Qxz : En Tryz.prog 122 := fun _ _ => by kernel_rfl
theorem Xa3 : En Tryz.prog 64 := fun _ _ => by kernel_rfl
theorem Qy0 : En Tryz.prog 123 := fun _ _ => by kernel_rfl
theorem Qy1 : En Tryz.prog 124 := fun _ _ => by kernel_rfl
theorem Qal : En Tryz.prog 186 := fun _ _ => by kernel_rfl
theorem Qhz : CV Tryz.prog 3 5 .u8 := fun _ _ _ => by kernel_rfl
theorem Qwh : Pg Tryz.prog 32 2 5 1 [.int .u8 0, .int .u8 0] := Lv Tryz.underlying32 (Xs).siz Qhc rfl rfl (by kernel_rfl)
theorem Qq7 : En Tryz.prog 182 := fun _ _ => by kernel_rfl
theorem Qlm : En Tryz.prog 184 := fun _ _ => by kernel_rfl
theorem Qak : En Tryz.prog 183 := fun _ _ => by kernel_rfl
theorem Eh : En Tryz.prog 180 := fun _ _ => by kernel_rfl
theorem Qq2 : En Tryz.prog 104 := fun _ _ => by kernel_rfl
theorem Qq1 : En Tryz.prog 102 := fun _ _ => by kernel_rfl
theorem Qzv : En Tryz.prog 46 := fun _ _ => by kernel_rfl
theorem Qlj : En Tryz.prog 14 := fun _ _ => by kernel_rfl
theorem Xa4 : En Tryz.prog 66 := fun _ _ => by kernel_rfl
theorem Qy2 : En Tryz.prog 125 := fun _ _ => by kernel_rfl
theorem Qxt : En Tryz.prog 115 := fun _ _ => by kernel_rfl
theorem Qe1 : En Tryz.prog 185 := fun _ _ => by kernel_rfl
theorem Qye : En Tryz.prog 191 := fun _ _ => by kernel_rfl
theorem Qxu : En Tryz.prog 116 := fun _ _ => by kernel_rfl
theorem Xa5 : En Tryz.prog 67 := fun _ _ => by kernel_rfl
theorem Xac {p0 r} (hm : Qea p0 = some r) {w : World} :
    Calls Tryz.prog 120 [.agg (Zd.cs p0).toArray].toArray w fun e w' => ∃ v, e = .returned v ∧ (v = .bool r ∧ Gr w w') := by
 unfold Qea at hm
 refine Xe 21 Tryz.func120 rfl rfl rfl<|qs 2 rfl<|qe rfl (Qy (cs := Zd.cs p0) rfl rfl) ?_
 rintro _ w1 ⟨b1, rfl, d, c, G1⟩
 refine qm rfl<|qd 19 rfl<|qv rfl (Qb Gb rfl)<|qv rfl (Qb Wt rfl)<|qv rfl (Qd (v := .int .i64 p0.Subset.Node) Qv rfl c rfl)<|qv rfl (Qb Gb rfl)<|qv rfl (Qb Vu rfl)<|qv rfl (Qd (v := .int .i64 p0.Subset.Minus) Qv rfl c rfl)<|qv rfl (Xi4 rfl rfl)<|qv rfl (Zc (a := Hh p0.Subset.Node p0.Subset.Minus) (b := 0) rfl rfl)<|qp rfl (Qm rfl) (fun c1 => ?_) (fun c1 => ?_)
 · replace hm := iT c1 hm
   refine qk rfl<|qk rfl<|qk rfl<|qk rfl<|qk rfl<|qk rfl<|qk rfl<|qk rfl<|qm rfl<|qm rfl<|Qa<|Qo ?_
   have X3 := ((Gr.refl w).trans G1)
   cases hm
   refine ⟨_, _, rfl, Qt rfl (Qg rfl), ?_⟩
   exact ⟨rfl, X3⟩
 replace hm := iF c1 hm
 refine qv rfl (Qb Gb rfl)<|qv rfl (Qb Wt rfl)<|qv rfl (Qd (v := .int .i64 p0.Subset.Node) Qv rfl c rfl)<|qv rfl (Qb Gb rfl)<|qv rfl (Qb Vu rfl)<|qv rfl (Qd (v := .int .i64 p0.Subset.Minus) Qv rfl c rfl)<|qv rfl (Qkd rfl rfl)<|qv rfl (Va (a := Di p0.Subset.Node p0.Subset.Minus) (b := 127) rfl rfl)<|qm rfl<|qm rfl<|Qa<|Qo ?_
 have X4 := ((Gr.refl w).trans G1)
 cases hm
 refine ⟨_, _, rfl, Qt rfl (Qg rfl), ?_⟩
 exact ⟨rfl, X4⟩
theorem Xgp {p0 vp0 zp0 gp0 op0 r} (hm : Qk0 p0 = some r) {w : World} (f : Rd w zp0 gp0 op0 18 vp0 (p0.map Zd.cs)) :
    Calls Tryz.prog 196 [vp0, .func (.func 120) [].toArray [].toArray].toArray w fun e w' => ∃ v, e = .returned v ∧ (v = .int .i64 r ∧ Gr w w') := by
 unfold Qk0 at hm
 refine Xe 19 Tryz.func196 rfl rfl rfl<|qs 1 rfl<|qm rfl<|Qa<|Qe<|qs 3 rfl<|qm rfl<|qv rfl (Zo (l := p0) (c := Zd.cs) Tryz.underlying33 rfl f)<|qm rfl<|Qa<|Xi<|Zq (α := Nat × Int) ([4, 5] ++ rg 8 11) (fun ⟨n1, a2⟩ => [(4, .int .i64 0), (8, .int .i64 a2)]) (fun ⟨n1, a2⟩ wr => (Qr (Oc p0) n1 a2 = some r) ∧ Kz [] w wr) (fun ⟨n1, a2⟩ => n1) ⟨Xb, 0⟩ ?_ ?_ ?_
 · exact Qf
 · exact ⟨hm, Kz.refl _ _⟩
 clear hm; rintro ⟨n1, a2⟩ w1 ⟨hm, K1⟩
 have hb := Zx hm; clear hm; obtain ⟨n1, rfl, hm⟩ := hb
 generalize d : Qr (Oc p0) n1 = j at hm
 unfold Oc at hm
 try dsimp only at hm
 refine qs 1 rfl<|qv rfl (Zc (a := a2) (b := (p0.length : Int)) rfl rfl)<|Qa<|Qe<|Zu rfl (fun c1 => ?_) (fun c1 => ?_)
 · replace hm := iF c1 hm
   refine Zl<|Xk<|Xk<|Zk<|Xl<|qs 1 rfl<|qm rfl<|Qa<|Qo ?_
   have X7 := ((Gr.refl w).kz K1)
   cases hm
   refine ⟨_, _, rfl, Qt rfl (Qg rfl), ?_⟩
   exact ⟨rfl, X7⟩
 replace hm := iT c1 hm
 refine qu<|Qe<|Xi<|qs 2 rfl<|qm rfl<|qm rfl<|qd 6 rfl<|qm rfl<|qm rfl<|qm rfl ?_
 obtain ⟨y3, g, hm⟩ := Qc hm
 have B3 := (f.kz K1)
 refine qv rfl (Jm (i := a2) Tryz.underlying33 (Ph).siz rfl B3 rfl g)<|qv rfl (Hc Ph rfl B3 g (by first | rfl | omega)) ?_
 obtain ⟨x4, h, hm⟩ := Qc hm
 refine qe rfl (Dg Qxy rfl rfl (Xac h)) ?_
 rintro _ w2 ⟨rfl, G2⟩
 refine Qa<|Xj rfl (fun c2 => ?_) (fun c2 => ?_)
 · replace hm := Xx c2 hm
   refine qs 2 rfl<|qm rfl<|qm rfl<|Qa<|Qo<|Zz<|Zf<|Zf<|Zz<|Zf ?_
   have X5 := (((Gr.refl w).kz K1).trans G2)
   cases hm
   refine ⟨_, _, rfl, Qt rfl (Qg rfl), ?_⟩
   exact ⟨rfl, X5⟩
 replace hm := Xw c2 hm
 refine Vi<|Xy<|Xl<|qg 2 rfl<|qv rfl (Zg (k := .i64) (a := a2) (b := 1) rfl rfl)<|qm rfl<|Qh ?_
 have K_6 : Kz [] w w2 := (K1.gr G2)
 subst d
 exact ⟨rfl, ⟨n1, Qi (a2 + 1)⟩, Qf, ⟨hm, K_6⟩, Nat.lt_succ_self _⟩
theorem Xgl {p0 vp0 zp0 gp0 op0 r} (hm : Qgx p0 = some r) {w : World} (c : Rd w zp0 gp0 op0 18 vp0 (p0.map Zd.cs)) :
    Calls Tryz.prog 121 [vp0, .func (.func 120) [].toArray [].toArray].toArray w fun e w' => ∃ v, e = .returned v ∧ (v = .bool r ∧ Gr w w') := by
 unfold Qgx at hm
 refine Xe 9 Tryz.func121 rfl rfl rfl<|qs 1 rfl<|qm rfl<|qd 5 rfl<|qm rfl<|qm rfl ?_
 obtain ⟨x1, d, hm⟩ := Qc hm
 refine qe rfl (eC Qqa rfl (Xgp d c)) ?_
 rintro _ w1 ⟨rfl, G1⟩
 refine qv rfl (Kl (a := x1) (b := 0) rfl rfl)<|qm rfl<|Qa<|Qo ?_
 have X3 := ((Gr.refl w).trans G1)
 cases hm
 refine ⟨_, _, rfl, Qt rfl (Qg rfl), ?_⟩
 exact ⟨rfl, X3⟩
theorem Xad {p0 vp0_2 zp0_2 gp0_2 op0_2 vp0_4 zp0_4 gp0_4 op0_4 vp0_39 zp0_39 gp0_39 op0_39 r} (hm : Qap p0 = some r) {w : World} (j : Rd w zp0_2 gp0_2 op0_2 18 vp0_2 (p0.Head.Items.map Zd.cs)) (k : Rd w zp0_4 gp0_4 op0_4 2 vp0_4 (p0.Head.Points.map Qu.cs)) (f : Rd w zp0_39 gp0_39 op0_39 1 vp0_39 (p0.Data.map Xq)) :
    Calls Tryz.prog 59 [.agg (Ze.cs p0 vp0_2 vp0_4 vp0_39).toArray].toArray w fun e w' => ∃ v, e = .returned v ∧ (v = .int .i64 r ∧ Gr w w') := by
 have B := j.lth
 have C := k.lth
 have D := f.lth
 unfold Qap at hm
 refine Xe 99 Tryz.func59 rfl rfl rfl<|qs 2 rfl<|qe rfl (Qy (cs := Ze.cs p0 vp0_2 vp0_4 vp0_39) rfl rfl) ?_
 rintro _ w1 ⟨b1, rfl, R, m, G1⟩
 have T := m.lt
 refine qm rfl<|qd 4 rfl<|qv rfl (Qb Yl rfl)<|qv rfl (Zy (vs := Zi.cs p0.Head vp0_2 vp0_4) Gn rfl m rfl rfl)<|qe rfl (Xh (cs := Zi.cs (Zi.mk [] 0#64 [] k0 k0) (.slice none 0 0) (.slice none 0 0)) Xin rfl) ?_
 rintro _ w2 ⟨b2, rfl, S, G, G2⟩
 have Y1 := Gr.trans G1 G2
 have B8 := (j.gr Y1)
 have B9 := (k.gr Y1)
 refine qe rfl (Qx Gn rfl rfl (Zi.cs_ones _ _ _ (Rd.oneB B8) (Rd.oneB B9)) G rfl rfl) ?_
 rintro _ w3 ⟨g, M3⟩
 refine Qa ?_
 have H := (((Gr.refl w).trans Y1).md M3)
 refine qj (β := Bool) ([4] ++ rg 9 27) (fun a1 => [(4, .bool a1)]) (fun a1 wr => (Fi p0 a1 = some r) ∧ Kz [] w3 wr) ?_ ?_
 · refine qg 28 rfl<|qv rfl (Qb Wg rfl)<|qv rfl (Qd (v := vp0_2) Wh rfl g rfl) ?_
   have I := (B8.md M3 (Xd B))
   refine qv rfl (Zo (l := p0.Head.Items) (c := Zd.cs) Tryz.underlying33 rfl I)<|qv rfl (Jr (a := (p0.Head.Items.length : Int)) (b := 0) rfl rfl)<|Jh rfl (Qm rfl) (fun n => ?_) (fun n => ?_)
   · replace hm := iF n hm
     refine qk rfl<|qk rfl<|qk rfl<|qk rfl<|qm rfl<|qm rfl<|qk rfl<|qk rfl<|qk rfl<|qm rfl<|qm rfl<|qk rfl<|qk rfl<|qk rfl<|qk rfl<|qm rfl<|qm rfl<|qk rfl<|qk rfl<|qk rfl<|qk rfl<|qm rfl<|qm rfl<|Qh ?_
     exact ⟨rfl, false, Qf, hm, Qz⟩
   replace hm := iT n hm
   refine qv rfl (Qb Yw rfl)<|qv rfl (Qd (v := vp0_4) Yx rfl g rfl) ?_
   have J := (B9.md M3 (Xd C))
   refine qv rfl (Zo (l := p0.Head.Points) (c := Qu.cs) Tryz.underlying34 rfl J)<|qv rfl (Jr (a := (p0.Head.Points.length : Int)) (b := 0) rfl rfl)<|qm rfl<|Jh rfl (Qm rfl) (fun o => ?_) (fun o => ?_)
   · replace hm := iF o hm
     refine qk rfl<|qk rfl<|qk rfl<|qm rfl<|qm rfl<|qk rfl<|qk rfl<|qk rfl<|qk rfl<|qm rfl<|qm rfl<|qk rfl<|qk rfl<|qk rfl<|qk rfl<|qm rfl<|qm rfl<|Qh ?_
     exact ⟨rfl, false, Qf, hm, Qz⟩
   replace hm := iT o hm
   refine qv rfl (Qb Gy rfl)<|qv rfl (Qd (v := wv p0.Head.Base) Xm rfl g rfl)<|qv rfl (Tp (c := p0.Head.Base) (d := 0#64) rfl rfl)<|qm rfl<|Jh rfl (Qm rfl) (fun s => ?_) (fun s => ?_)
   · replace hm := iF s hm
     refine qk rfl<|qk rfl<|qk rfl<|qk rfl<|qm rfl<|qm rfl<|qk rfl<|qk rfl<|qk rfl<|qk rfl<|qm rfl<|qm rfl<|Qh ?_
     exact ⟨rfl, false, Qf, hm, Qz⟩
   replace hm := iT s hm
   refine qv rfl (Qb Bw rfl)<|qv rfl (Zy (vs := kb p0.Head.Box) Ql rfl g rfl rfl)<|qv rfl (Vz Vt)<|qv rfl (Ss (cf := kb) (a := p0.Head.Box) (b := k0) Dw rfl rfl rfl rfl (fun h => Hq h))<|qm rfl<|Jh rfl (Qm rfl) (fun t => ?_) (fun t => ?_)
   · replace hm := iF t hm
     refine qk rfl<|qk rfl<|qk rfl<|qk rfl<|qm rfl<|qm rfl<|Qh ?_
     exact ⟨rfl, false, Qf, hm, Qz⟩
   replace hm := iT t hm
   refine qv rfl (Qb Bz rfl)<|qv rfl (Zy (vs := kb p0.Head.Check) Ql rfl g rfl rfl)<|qv rfl (Vz Vt)<|qv rfl (Ss (cf := kb) (a := p0.Head.Check) (b := k0) Dw rfl rfl rfl rfl (fun h => Hq h))<|qm rfl<|qm rfl<|Qh ?_
   exact ⟨rfl, (decide (p0.Head.Check = k0)), Qf, hm, Qz⟩
 clear hm; rintro a1 w4 ⟨hm, K4⟩
 unfold Fi at hm
 refine qs 1 rfl<|qm rfl<|qd 1 rfl<|qm rfl<|Qa ?_
 have E := (H.kz K4)
 refine qj (β := Bool) ([6] ++ rg 36 61) (fun a2 => [(6, .bool a2)]) (fun a2 wr => (Du a2 = some r) ∧ Kz [] w4 wr) ?_ ?_
 · refine qs 2 rfl<|qv rfl (Qb Fl rfl) ?_
   have i := (((m.gr G2).md M3).kz K4)
   refine qv rfl (Qd (v := bv p0.Kind) Xs rfl i rfl)<|Qa<|Xi<|qs 2 rfl<|qv rfl (Yz (p := p0.Kind) (q := 1#8) rfl rfl)<|qm rfl<|Qa<|Zu rfl (fun c2 => ?_) (fun c2 => ?_)
   · replace hm := iF c2 hm
     refine qs 2 rfl<|qv rfl (Yz (p := p0.Kind) (q := 2#8) rfl rfl)<|qm rfl<|Qa<|Zu rfl (fun c9 => ?_) (fun c9 => ?_)
     · replace hm := iF c9 hm
       refine Vi<|Xy ?_
       exact ⟨rfl, false, Qf, hm, Qz⟩
     replace hm := iT c9 hm
     refine qg 18 rfl<|qv rfl (Qb Pn rfl)<|qv rfl (Qd (v := .int .i64 p0.Epoch) Qv rfl i rfl)<|qv rfl (Jr (a := p0.Epoch) (b := 0) rfl rfl)<|Jh rfl (Qm rfl) (fun u => ?_) (fun u => ?_)
     · replace hm := iF u hm
       refine qk rfl<|qk rfl<|qk rfl<|qm rfl<|qm rfl<|qk rfl<|qk rfl<|qk rfl<|qk rfl<|qm rfl<|qm rfl<|qk rfl<|qm rfl<|qm rfl<|Qh<|Xy ?_
       exact ⟨rfl, false, Qf, hm, Qz⟩
     replace hm := iT u hm
     refine qv rfl (Qb Ca rfl)<|qv rfl (Qd (v := bv p0.Low) Xs rfl i rfl)<|qv rfl (Qh6 (p := p0.Low) (q := 4#8) rfl rfl)<|qm rfl<|Jh rfl (Qm rfl) (fun x => ?_) (fun x => ?_)
     · replace hm := iF x hm
       refine qk rfl<|qk rfl<|qk rfl<|qk rfl<|qm rfl<|qm rfl<|qk rfl<|qm rfl<|qm rfl<|Qh<|Xy ?_
       exact ⟨rfl, false, Qf, hm, Qz⟩
     replace hm := iT x hm
     refine qv rfl (Qb Gc rfl)<|qv rfl (Qd (v := vp0_39) Hj rfl i rfl) ?_
     have K := (((f.gr Y1).md M3 (Xd D)).kz K4)
     refine qv rfl (Zo (l := p0.Data) (c := Xq) Tryz.underlying32 rfl K)<|qv rfl (Pf (a := (p0.Data.length : Int)) (b := 256) rfl rfl)<|qm rfl<|qp rfl (Qm rfl) (fun y => ?_) (fun y => ?_)
     · replace hm := iT y hm
       refine qm rfl<|qm rfl<|qm rfl<|Qh<|Xy ?_
       exact ⟨rfl, a1, Qf, hm, Qz⟩
     replace hm := iF y hm
     refine qk rfl<|qm rfl<|qm rfl<|Qh<|Xy ?_
     exact ⟨rfl, false, Qf, hm, Qz⟩
   replace hm := iT c2 hm
   refine qg 39 rfl<|qv rfl (Qb Pn rfl)<|qv rfl (Qd (v := .int .i64 p0.Epoch) Qv rfl i rfl) ?_
   obtain ⟨x3, L, hm⟩ := Qc hm
   refine qe rfl (eC Qm1 rfl (Qm8 L)) ?_
   rintro _ w6 ⟨rfl, G6⟩
   refine Jh rfl (Qm rfl) (fun c3 => ?_) (fun c3 => ?_)
   · replace hm := Xw c3 hm
     refine qk rfl<|qk rfl<|qk rfl<|qm rfl<|qm rfl<|qk rfl<|qk rfl<|qk rfl<|qm rfl<|qm rfl<|qk rfl<|qk rfl<|qk rfl<|qk rfl<|qm rfl<|qm rfl<|qk rfl<|qk rfl<|qk rfl<|qk rfl<|qm rfl<|qm rfl<|qk rfl<|qk rfl<|qk rfl ?_
     refine qk rfl<|qm rfl<|qm rfl<|qk rfl<|qk rfl<|qk rfl<|qk rfl<|qk rfl<|qm rfl<|qm rfl<|Qh<|Xy ?_
     exact ⟨rfl, false, Qf, hm, (Qz.gr G6)⟩
   replace hm := Xx c3 hm
   refine qv rfl (Qb Ca rfl) ?_
   have z := (i.gr G6)
   refine qv rfl (Qd (v := bv p0.Low) Xs rfl z rfl)<|qv rfl (Yz (p := p0.Low) (q := 0#8) rfl rfl)<|qm rfl<|Jh rfl (Qm rfl) (fun c4 => ?_) (fun c4 => ?_)
   · replace hm := iF c4 hm
     refine qk rfl<|qk rfl<|qk rfl<|qm rfl<|qm rfl<|qk rfl<|qk rfl<|qk rfl<|qk rfl<|qm rfl<|qm rfl<|qk rfl<|qk rfl<|qk rfl<|qk rfl<|qm rfl<|qm rfl<|qk rfl<|qk rfl<|qk rfl<|qk rfl<|qm rfl<|qm rfl<|qk rfl<|qk rfl ?_
     refine qk rfl<|qk rfl<|qk rfl<|qm rfl<|qm rfl<|Qh<|Xy ?_
     exact ⟨rfl, false, Qf, hm, (Qz.gr G6)⟩
   replace hm := iT c4 hm
   refine qv rfl (Qb Qb7 rfl)<|qv rfl (Qd (v := wv p0.Number) Xm rfl z rfl)<|qv rfl (Tp (c := p0.Number) (d := 0#64) rfl rfl)<|qm rfl<|Jh rfl (Qm rfl) (fun c5 => ?_) (fun c5 => ?_)
   · replace hm := iF c5 hm
     refine qk rfl<|qk rfl<|qk rfl<|qk rfl<|qm rfl<|qm rfl<|qk rfl<|qk rfl<|qk rfl<|qk rfl<|qm rfl<|qm rfl<|qk rfl<|qk rfl<|qk rfl<|qk rfl<|qm rfl<|qm rfl<|qk rfl<|qk rfl<|qk rfl<|qk rfl<|qk rfl<|qm rfl<|qm rfl ?_
     refine Qh<|Xy ?_
     exact ⟨rfl, false, Qf, hm, (Qz.gr G6)⟩
   replace hm := iT c5 hm
   refine qv rfl (Qb Gc rfl)<|qv rfl (Qd (v := vp0_39) Hj rfl z rfl) ?_
   have M := ((((f.gr Y1).md M3 (Xd D)).kz K4).gr G6)
   refine qv rfl (Zo (l := p0.Data) (c := Xq) Tryz.underlying32 rfl M)<|qv rfl (Jr (a := (p0.Data.length : Int)) (b := 0) rfl rfl)<|qm rfl<|Jh rfl (Qm rfl) (fun c6 => ?_) (fun c6 => ?_)
   · replace hm := iF c6 hm
     refine qk rfl<|qk rfl<|qk rfl<|qk rfl<|qm rfl<|qm rfl<|qk rfl<|qk rfl<|qk rfl<|qk rfl<|qm rfl<|qm rfl<|qk rfl<|qk rfl<|qk rfl<|qk rfl<|qk rfl<|qm rfl<|qm rfl<|Qh<|Xy ?_
     exact ⟨rfl, false, Qf, hm, (Qz.gr G6)⟩
   replace hm := iT c6 hm
   refine qv rfl (Qb Wg rfl) ?_
   have A := ((g.kz K4).gr G6)
   refine qv rfl (Qd (v := vp0_2) Wh rfl A rfl) ?_
   have F := (((B8.md M3 (Xd B)).kz K4).gr G6)
   refine qv rfl (Zo (l := p0.Head.Items) (c := Zd.cs) Tryz.underlying33 rfl F)<|qv rfl (Pf (a := (p0.Head.Items.length : Int)) (b := 64) rfl rfl)<|qm rfl<|Jh rfl (Qm rfl) (fun c7 => ?_) (fun c7 => ?_)
   · replace hm := iF c7 hm
     refine qk rfl<|qk rfl<|qk rfl<|qk rfl<|qm rfl<|qm rfl<|qk rfl<|qk rfl<|qk rfl<|qk rfl<|qk rfl<|qm rfl<|qm rfl<|Qh<|Xy ?_
     exact ⟨rfl, false, Qf, hm, (Qz.gr G6)⟩
   replace hm := iT c7 hm
   refine qv rfl (Qb Yw rfl)<|qv rfl (Qd (v := vp0_4) Yx rfl A rfl) ?_
   have N := (((B9.md M3 (Xd C)).kz K4).gr G6)
   refine qv rfl (Zo (l := p0.Head.Points) (c := Qu.cs) Tryz.underlying34 rfl N)<|qv rfl (Pf (a := (p0.Head.Points.length : Int)) (b := 8) rfl rfl)<|qm rfl<|Jh rfl (Qm rfl) (fun c8 => ?_) (fun c8 => ?_)
   · replace hm := iF c8 hm
     refine qk rfl<|qk rfl<|qk rfl<|qk rfl<|qk rfl<|qm rfl<|qm rfl<|Qh<|Xy ?_
     exact ⟨rfl, false, Qf, hm, (Qz.gr G6)⟩
   replace hm := iT c8 hm
   refine qv rfl (Qb Wg rfl)<|qv rfl (Qd (v := vp0_2) Wh rfl A rfl)<|qm rfl ?_
   obtain ⟨x4, O, hm⟩ := Qc hm
   refine qe rfl (eC Qq3 rfl (Xgl O F)) ?_
   rintro _ w7 ⟨rfl, G7⟩
   refine qv rfl (Jb rfl)<|qm rfl<|qm rfl<|Qh<|Xy ?_
   exact ⟨rfl, (!x4), Qf, hm, ((Qz.gr G6).gr G7)⟩
 clear hm; rintro a2 w5 ⟨hm, K5⟩
 unfold Du at hm
 refine Qe<|qs 2 rfl<|qm rfl<|qv rfl (Jb rfl)<|Qa<|Xj rfl (fun c1 => ?_) (fun c1 => ?_)
 · replace hm := Xx c1 hm
   refine qs 1 rfl<|qm rfl<|qb ?_
   have P := (E.kz K5)
   cases hm
   refine ⟨_, _, rfl, Qt rfl (Qg rfl), ?_⟩
   exact ⟨rfl, P⟩
 replace hm := Xw c1 hm
 refine qu<|qs 1 rfl<|qm rfl<|Qa<|Qo ?_
 have Q := (E.kz K5)
 cases hm
 refine ⟨_, _, rfl, Qt rfl (Qg rfl), ?_⟩
 exact ⟨rfl, Q⟩
theorem Xgj {p0 vp0 zp0 gp0 op0 r} (hm : Qgw p0 = some r) {w : World} (b : Rd w zp0 gp0 op0 18 vp0 (p0.map Xn.cs)) :
    Calls Tryz.prog 61 [vp0].toArray w fun e w' => ∃ v, e = .returned v ∧ (∃ ur0_s zr0_s gr0_s, v = ur0_s ∧ Qn w' zr0_s gr0_s 72 18 ur0_s (r.map Xn.cs) ∧ Zm (zr0_s = 0 ∨ w.heap.size ≤ gr0_s) ∧ Gr w w') := by
 unfold Qgw at hm
 refine Xe 8 Tryz.func61 rfl rfl rfl<|qs 1 rfl<|qm rfl<|Qa<|Qe<|qs 2 rfl<|qm rfl ?_
 rcases Qtq b with ⟨d, a, f⟩ | ⟨t, u, d, a⟩
 · replace hm : (some []) = some r := by rw [f] at hm; exact hm
   refine qv rfl (Qkb Tryz.underlying48 rfl a)<|Qa<|Ry rfl<|qs 1 rfl<|qm rfl<|qb ?_
   cases hm
   refine ⟨_, _, rfl, Qt rfl (Qg rfl), ?_⟩
   exact ⟨(.slice none 0 0), 0, 0, rfl, (Ji _ 0 72 18), ⟨.inl rfl⟩, (Gr.refl w)⟩
 skip
 refine qv rfl (Qkb Tryz.underlying48 rfl a)<|Qa<|Sr rfl<|qu<|qs 4 rfl<|qe rfl (Ve ([] : List Xn) Xn.cs Qpd rfl rfl (Kx rfl) rfl rfl rfl) ?_
 rintro y w1 ⟨g, s, h, G1⟩
 have z3 := G1.size
 refine qm rfl ?_
 have B5 := (b.gr G1)
 obtain ⟨l1, i, hm⟩ := Qc hm
 refine qe rfl (Vl (l := ([] : List Xn)) (m := p0) (c := Xn.cs) Qhh rfl rfl h B5 i (by decide)) ?_
 rintro j w2 ⟨k, n, o, p, z, q⟩
 refine qm rfl<|Qa<|Qo ?_
 have X7 := (((Gr.refl w).trans G1).ka p (Qk ((.inr Qj) : 1 = 0 ∨ w.heap.size ≤ g)))
 cases hm
 refine ⟨_, _, rfl, Qt rfl (Qg rfl), ?_⟩
 exact ⟨j, k, n, rfl, o, ⟨(Jg (A := (fun x => w.heap.size ≤ x)) q (.inr Qj))⟩, X7⟩
theorem Qr5 {p0 p1 r} (hm : Qb1 p0 p1 = some r) {w : World} :
    Calls Tryz.prog 126 [.agg (Za.cs p0).toArray, .int .i64 p1].toArray w fun e w' => ∃ v, e = .returned v ∧ (v = .tuple [.int .i64 r.1, .int .i64 r.2].toArray ∧ Gr w w') := by
 unfold Qb1 at hm
 refine Xe 18 Tryz.func126 rfl rfl rfl<|qs 3 rfl<|qe rfl (Qy (cs := Za.cs p0) rfl rfl) ?_
 rintro _ w1 ⟨b1, rfl, d, c, G1⟩
 refine qm rfl<|qm rfl<|Qa<|Qe<|dw [([])] [] (.leaf [(0,10),(1,10),(2,10),(3,10),(4,10),(5,10),(6,10),(7,10),(8,10),(9,10),(10,10),(11,10),(12,10),(13,10)]) ?_
 intro w2 G2 f
 refine Zj<|dm 0 rfl rfl<|dh 0 rfl rfl (fun w hS => Qb Hf rfl) ?_
 have B3 := (c.gr G2)
 refine dh 0 rfl rfl (fun w hS => Qd (v := .int .i64 p0.Drift) Qv rfl (Bx.kp B3 hS) rfl)<|dh 0 rfl rfl (fun w hS => Vn (k := .i64) (a := p1) (b := p0.Drift) rfl rfl)<|dh 0 rfl rfl (fun w hS => Qb Lc rfl)<|dh 0 rfl rfl (fun w hS => Qd (v := .int .i64 p0.Delay) Qv rfl (Bx.kp B3 hS) rfl)<|dh 0 rfl rfl (fun w hS => Vn (k := .i64) (a := Qi (p1 - p0.Drift)) (b := p0.Delay) rfl rfl)<|dh 0 rfl rfl (fun w hS => Qkd rfl rfl)<|dm 0 rfl rfl<|dh 0 rfl rfl (fun w hS => Qb Hf rfl)<|dh 0 rfl rfl (fun w hS => Qd (v := .int .i64 p0.Drift) Qv rfl (Bx.kp B3 hS) rfl)<|dh 0 rfl rfl (fun w hS => Zg (k := .i64) (a := p1) (b := p0.Drift) rfl rfl)<|dm 0 rfl rfl<|dm 0 rfl rfl<|Qa<|Qo ?_
 have X4 := (((Gr.refl w).trans G1).trans G2)
 cases hm
 refine ⟨_, _, rfl, Zb rfl (Qg rfl) (Qg rfl), ?_⟩
 exact ⟨rfl, X4⟩
theorem Xan {p0 p1 p2 r} (hm : Qek p0 p1 p2 = some r) {w : World} :
    Calls Tryz.prog 72 [.agg (Za.cs p0).toArray, .int .i64 p1, .int .i64 p2].toArray w fun e w' => ∃ v, e = .returned v ∧ (v = .bool r ∧ Gr w w') := by
 unfold Qek at hm
 refine Xe 36 Tryz.func72 rfl rfl rfl<|qs 2 rfl<|qe rfl (Qy (cs := Za.cs p0) rfl rfl) ?_
 rintro _ w1 ⟨b1, rfl, g, c, G1⟩
 refine qm rfl<|qd 8 rfl<|qv rfl (Qp Yt rfl c rfl)<|qm rfl ?_
 obtain ⟨x1, d, hm⟩ := Qc hm
 refine qe rfl (eC Qq4 rfl (Qr5 d)) ?_
 rintro _ w2 ⟨rfl, G2⟩
 refine qm rfl<|qm rfl<|qm rfl<|qm rfl<|qm rfl<|qd 22 rfl<|qm rfl<|qv rfl (Kl (a := x1.2) (b := 0) rfl rfl)<|Jh rfl (Qm rfl) (fun c1 => ?_) (fun c1 => ?_)
 · replace hm := iF c1 hm
   refine qk rfl<|qk rfl<|qk rfl<|qk rfl<|qk rfl<|qk rfl<|qm rfl<|qm rfl<|qk rfl<|qk rfl<|qk rfl<|qk rfl<|qk rfl<|qk rfl<|qk rfl<|qk rfl<|qk rfl<|qm rfl<|qm rfl<|Qa<|Qo ?_
   have X7 := (((Gr.refl w).trans G1).trans G2)
   cases hm
   refine ⟨_, _, rfl, Qt rfl (Qg rfl), ?_⟩
   exact ⟨rfl, X7⟩
 replace hm := iT c1 hm
 refine qm rfl<|qv rfl (Qb Dx rfl) ?_
 have B4 := (c.gr G2)
 refine qv rfl (Qd (v := .int .i64 p0.Epoch) Qv rfl B4 rfl) ?_
 obtain ⟨x2, f, hm⟩ := Qc hm
 refine qv rfl (Tq (a := x1.1) (b := p0.Epoch) rfl rfl f)<|qm rfl<|qv rfl (Pf (a := x2) (b := p2) rfl rfl)<|qm rfl<|Jh rfl (Qm rfl) (fun c2 => ?_) (fun c2 => ?_)
 · replace hm := iF c2 hm
   refine qk rfl<|qk rfl<|qk rfl<|qk rfl<|qk rfl<|qk rfl<|qk rfl<|qk rfl<|qk rfl<|qm rfl<|qm rfl<|Qa<|Qo ?_
   have X6 := (((Gr.refl w).trans G1).trans G2)
   cases hm
   refine ⟨_, _, rfl, Qt rfl (Qg rfl), ?_⟩
   exact ⟨rfl, X6⟩
 replace hm := iT c2 hm
 refine qm rfl<|qm rfl<|qv rfl (Qb Dx rfl)<|qv rfl (Qd (v := .int .i64 p0.Epoch) Qv rfl B4 rfl)<|qv rfl (Wa (k := .i64) (a := p2) (b := p0.Epoch) rfl rfl)<|qv rfl (Qb Eu rfl)<|qv rfl (Qd (v := .int .i64 p0.Early) Qv rfl B4 rfl)<|qv rfl (Vn (k := .i64) (a := Qi (p2 * p0.Epoch)) (b := p0.Early) rfl rfl)<|qv rfl (Kl (a := x1.2) (b := Qi ((Qi (p2 * p0.Epoch)) - p0.Early)) rfl rfl)<|qm rfl<|qm rfl<|Qa<|Qo ?_
 have X5 := (((Gr.refl w).trans G1).trans G2)
 cases hm
 refine ⟨_, _, rfl, Qt rfl (Qg rfl), ?_⟩
 exact ⟨rfl, X5⟩
theorem Gx {p0 p1 p2 bp0 vp0_0 zp0_0 gp0_0 r} (hm : De p0 p1 p2 = some r) {w : World} (hbp0 : Bx w bp0 214 (Kq.cs p0 vp0_0)) (g : Qn w zp0_0 gp0_0 5 1 vp0_0 (p0.out.map Xq)) (j : Zm (zp0_0 = 0 ∨ gp0_0 ≠ bp0)) :
    Calls Tryz.prog 112 [.pointer (some ⟨bp0, 0, none⟩), wv p1, .int .i64 p2].toArray w fun e w' => ∃ v, e = .returned v ∧ (∃ ub0_0 zb0_0 gb0_0, v = .tuple #[] ∧ Qn w' zb0_0 gb0_0 5 1 ub0_0 (r.out.map Xq) ∧ Zm (zb0_0 = 0 ∨ (gb0_0 = gp0_0 ∧ zp0_0 ≠ 0) ∨ w.heap.size ≤ gb0_0) ∧ Bx w' bp0 214 (Kq.cs r ub0_0) ∧ Kz [(zp0_0, gp0_0), (1, bp0)] w w') := by
 have n := g.lth
 have J := hbp0.lt
 unfold De at hm
 refine Xe 26 Tryz.func112 rfl rfl rfl<|qs 3 rfl<|qm rfl<|qv rfl (Vn (k := .i64) (a := p2) (b := 1) rfl rfl)<|qm rfl<|Qa<|Xi<|Zq (α := Nat × Int × List (BitVec 8) × Value × Nat × Nat) ([2] ++ rg 8 18) (fun ⟨n1, a4, a5, vy6, zy6, gy6⟩ => [(2, .int .i64 a4)]) (fun ⟨n1, a4, a5, vy6, zy6, gy6⟩ wr => (Qr (Eo p1) n1 (a4, a5) = some r) ∧ Qn wr zy6 gy6 5 1 vy6 (a5.map Xq) ∧ Zm (zy6 = 0 ∨ (gy6 = gp0_0 ∧ zp0_0 ≠ 0) ∨ w.heap.size ≤ gy6) ∧ Bx wr bp0 214 (Kq.cs (Kq.mk a5) vy6) ∧ Kz [(1, bp0), (zp0_0, gp0_0)] w wr) (fun ⟨n1, a4, a5, vy6, zy6, gy6⟩ => n1) ⟨Xb, Qi (p2 - 1), p0.out, vp0_0, zp0_0, gp0_0⟩ ?_ ?_ ?_
 · exact Qf
 · exact ⟨hm, g, ⟨Qj⟩, hbp0, Kz.refl _ _⟩
 clear hm; rintro ⟨n1, a4, a5, vy6, zy6, gy6⟩ w1 ⟨hm, h, d, f, K1⟩
 have z3 := K1.size
 have K := f.lt
 have hb := Zx hm; clear hm; obtain ⟨n1, rfl, hm⟩ := hb
 generalize p : Qr (Eo p1) n1 = H at hm
 unfold Eo at hm
 try dsimp only at hm
 refine Qe<|qs 2 rfl<|qm rfl<|qv rfl (Kl (a := a4) (b := 0) rfl rfl)<|Qa<|Zu rfl (fun c1 => ?_) (fun c1 => ?_)
 · replace hm := iF c1 hm
   refine Zl<|Xk<|Xk<|Zk ?_
   have y := ((Kz.refl [(zp0_0, gp0_0), (1, bp0)] w).kz K1 (Qk (Qj : zp0_0 = 0 ∨ (gp0_0 = gp0_0 ∧ zp0_0 ≠ 0) ∨ w.heap.size ≤ gp0_0)))
   cases hm
   refine ⟨_, _, rfl, Nl rfl, ?_⟩
   exact ⟨vy6, zy6, gy6, rfl, h, ⟨(Xc (A := (fun x => (x = gp0_0 ∧ zp0_0 ≠ 0) ∨ w.heap.size ≤ x)) d Qj)⟩, f, y⟩
 replace hm := iT c1 hm
 refine qu<|Qe<|Xi<|dw [([bp0] ++ zf zy6 gy6),([] ++ zf zy6 gy6)] [(14, [1])] (.leaf [(0,10),(1,10),(2,10),(3,10),(4,11),(5,10),(6,10),(7,10),(8,10),(9,10),(10,0),(11,0),(12,10),(13,10),(14,0)]) ?_
 intro w2 G2 L
 refine Zj<|dn 0 rfl rfl (Kp.refl ([bp0] ++ zf zy6 gy6) w2)<|dn 0 rfl rfl (Kp.refl ([bp0] ++ zf zy6 gy6) w2)<|qh 0 rfl rfl (Kp.refl ([bp0] ++ zf zy6 gy6) w2) (fun w hS => Lm rfl rfl)<|qh 0 rfl rfl (Kp.refl ([bp0] ++ zf zy6 gy6) w2) (fun w hS => Qb Qb5 rfl) ?_
 have B6 := (f.gr G2)
 refine qh 1 rfl rfl (Kp.refl ([] ++ zf zy6 gy6) w2) (fun w hS => Qd (v := vy6) Hj rfl (Bx.kp B6 hS (Qk (Xp (b := bp0) d (Ke n.o j.o)))) rfl)<|dn 0 rfl rfl (Kp.refl ([bp0] ++ zf zy6 gy6) w2)<|dn 0 rfl rfl (Kp.refl ([bp0] ++ zf zy6 gy6) w2)<|qh 0 rfl rfl (Kp.refl ([bp0] ++ zf zy6 gy6) w2) (fun w hS => Wa (k := .i64) (a := 8) (b := a4) rfl rfl) ?_
 obtain ⟨nn7, hnn7, hm⟩ := Qc hm
 refine qh 0 rfl rfl (Kp.refl ([bp0] ++ zf zy6 gy6) w2) (fun w hS => Om (c := p1) (b := (Qi (8 * a4))) rfl rfl hnn7)<|qh 0 rfl rfl (Kp.refl ([bp0] ++ zf zy6 gy6) w2) (fun w hS => Qh2 Pk rfl)<|qz [] rfl (Ve [(p1 >>> nn7).setWidth 8] Xq Gq rfl rfl (Kx rfl) rfl rfl rfl) ⟨fun _ => Qj, fun _ => Qj, trivial⟩ ?_
 rintro M w3 ⟨N, I, z, G3⟩
 have z7 := G3.size
 refine kG G3 ?_
 have B9 := ((h.gr G2).gr G3)
 obtain ⟨l8, B, hm⟩ := Qc hm
 refine qz [(zy6, gy6)] rfl (Vl (l := a5) (m := [(p1 >>> nn7).setWidth 8]) (c := Xq) Wf rfl rfl B9 (Qn.rd z) B (by decide)) ⟨fun _ => (Qk (Qj : zy6 = 0 ∨ (gy6 = gy6 ∧ zy6 ≠ 0) ∨ w2.heap.size ≤ gy6)), fun _ => (Qk (Qj : zy6 = 0 ∨ (gy6 = gy6 ∧ zy6 ≠ 0) ∨ w2.heap.size ≤ gy6)), trivial⟩ ?_
 rintro q w4 ⟨C, D, s, i, O, t⟩
 refine ⟨Kz.ofKa i, ?_⟩
 have u := (((Kp.refl ([bp0] ++ zf zy6 gy6) w2).gr G3).ka i (Qk (Qj : zy6 = 0 ∨ (gy6 = gy6 ∧ zy6 ≠ 0) ∨ w2.heap.size ≤ gy6)))
 refine qh 0 rfl rfl u (fun w hS => Lm rfl rfl)<|qh 0 rfl rfl u (fun w hS => Qb Qb5 rfl) ?_
 have E := ((B6.gr G3).ka i (Qk (Xp (b := bp0) d (Ke n.o j.o))))
 refine qz [(1, bp0)] rfl (Hn (cs' := Kq.cs (Kq.mk l8) q) (Hj).siz rfl rfl (Qn.oneB s) E rfl rfl) ⟨fun _ => Qj, nofun, trivial⟩ ?_
 rintro _ w5 ⟨F, M5⟩
 refine kM M5<|Qh<|Xy<|Xl<|qg 3 rfl<|qm rfl<|qv rfl (Vn (k := .i64) (a := a4) (b := 1) rfl rfl)<|qm rfl<|Qh ?_
 have K_14 : Kz [(1, bp0), (zp0_0, gp0_0)] w w5 := ((((K1.gr G2).gr G3).ka i (Qk (Xc (A := (fun x => (x = gp0_0 ∧ zp0_0 ≠ 0) ∨ w.heap.size ≤ x)) d Qj))).md M5)
 have G := (s.md M5 (Hl t (Xp d (Ke n.o j.o))))
 subst p
 exact ⟨rfl, ⟨n1, Qi (a4 - 1), l8, q, C, D⟩, Qf, ⟨hm, G, ⟨(Jg (A := (fun x => (x = gp0_0 ∧ zp0_0 ≠ 0) ∨ w.heap.size ≤ x)) t (Xc (A := (fun x => (x = gp0_0 ∧ zp0_0 ≠ 0) ∨ w.heap.size ≤ x)) d Qj))⟩, F, K_14⟩, Nat.lt_succ_self _⟩
theorem Qm9 {p0 p1 bp0 vp0_0 zp0_0 gp0_0 r} (hm : Em p0 p1 = some r) {w : World} (hbp0 : Bx w bp0 214 (Kq.cs p0 vp0_0)) (a : Qn w zp0_0 gp0_0 5 1 vp0_0 (p0.out.map Xq)) (d : Zm (zp0_0 = 0 ∨ gp0_0 ≠ bp0)) :
    Calls Tryz.prog 113 [.pointer (some ⟨bp0, 0, none⟩), kv p1].toArray w fun e w' => ∃ v, e = .returned v ∧ (∃ ub0_0 zb0_0 gb0_0, v = .tuple #[] ∧ Qn w' zb0_0 gb0_0 5 1 ub0_0 (r.out.map Xq) ∧ Zm (zb0_0 = 0 ∨ (gb0_0 = gp0_0 ∧ zp0_0 ≠ 0) ∨ w.heap.size ≤ gb0_0) ∧ Bx w' bp0 214 (Kq.cs r ub0_0) ∧ Kz [(zp0_0, gp0_0), (1, bp0)] w w') := by
 have f := a.lth
 have F := hbp0.lt
 unfold Em at hm
 refine Xe 13 Tryz.func113 rfl rfl rfl<|qs 1 rfl<|qe rfl (Qy (cs := kb p1) rfl rfl) ?_
 rintro _ w1 ⟨b1, rfl, E, g, G1⟩
 have z3 := G1.size
 have G := g.lt
 refine Qa<|dw [([bp0] ++ zf zp0_0 gp0_0),([] ++ zf zp0_0 gp0_0)] [(9, [1])] (.leaf [(0,10),(1,10),(2,10),(3,10),(4,11),(5,10),(6,0),(7,10),(8,10),(9,0)]) ?_
 intro w2 G2 H
 refine Zj<|dn 0 rfl rfl (Kp.refl ([bp0] ++ zf zp0_0 gp0_0) w2)<|dn 0 rfl rfl (Kp.refl ([bp0] ++ zf zp0_0 gp0_0) w2)<|qh 0 rfl rfl (Kp.refl ([bp0] ++ zf zp0_0 gp0_0) w2) (fun w hS => Lm rfl rfl)<|qh 0 rfl rfl (Kp.refl ([bp0] ++ zf zp0_0 gp0_0) w2) (fun w hS => Qb Qb5 rfl) ?_
 have B5 := ((hbp0.gr G1).gr G2)
 refine qh 1 rfl rfl (Kp.refl ([] ++ zf zp0_0 gp0_0) w2) (fun w hS => Qd (v := vp0_0) Hj rfl (Bx.kp B5 hS (Qk ((Ke f.o d.o) : zp0_0 = 0 ∨ gp0_0 ≠ bp0))) rfl) ?_
 have B6 := (g.gr G2)
 have s := Qfj (o := 0) (p := p1) B6 rfl
 refine qh 0 rfl rfl (Kp.refl ([bp0] ++ zf zp0_0 gp0_0) w2) (fun w hS => Su (n := 16) (l := 0) (h := 16) Tryz.underlying23 (Xs).siz rfl rfl rfl (by decide) (by decide) (by decide)) ?_
 have B9 := ((a.gr G1).gr G2)
 obtain ⟨l1, t, hm⟩ := Qc hm
 refine qz [(zp0_0, gp0_0)] rfl (Vl (l := p0.out) (m := Xz p1) (c := Xq) Wf rfl rfl B9 s t (by decide)) ⟨fun _ => (Qk (Qj : zp0_0 = 0 ∨ (gp0_0 = gp0_0 ∧ zp0_0 ≠ 0) ∨ w2.heap.size ≤ gp0_0)), fun _ => (Qk (Qj : zp0_0 = 0 ∨ (gp0_0 = gp0_0 ∧ zp0_0 ≠ 0) ∨ w2.heap.size ≤ gp0_0)), trivial⟩ ?_
 rintro i w3 ⟨u, y, j, b, I, k⟩
 refine ⟨Kz.ofKa b, ?_⟩
 have q := ((Kp.refl ([bp0] ++ zf zp0_0 gp0_0) w2).ka b (Qk (Qj : zp0_0 = 0 ∨ (gp0_0 = gp0_0 ∧ zp0_0 ≠ 0) ∨ w2.heap.size ≤ gp0_0)))
 refine qh 0 rfl rfl q (fun w hS => Lm rfl rfl)<|qh 0 rfl rfl q (fun w hS => Qb Qb5 rfl) ?_
 have z := (B5.ka b (Qk ((Ke f.o d.o) : zp0_0 = 0 ∨ gp0_0 ≠ bp0)))
 refine qz [(1, bp0)] rfl (Hn (cs' := Kq.cs (Kq.mk l1) i) (Hj).siz rfl rfl (Qn.oneB j) z rfl rfl) ⟨fun _ => Qj, nofun, trivial⟩ ?_
 rintro _ w4 ⟨B, M4⟩
 refine kM M4<|Qh ?_
 have C := (j.md M4 (Hl k (Ke f.o d.o)))
 have D := (((((Kz.refl [(zp0_0, gp0_0), (1, bp0)] w).gr G1).gr G2).ka b (Qk (Qj : zp0_0 = 0 ∨ (gp0_0 = gp0_0 ∧ zp0_0 ≠ 0) ∨ w.heap.size ≤ gp0_0))).md M4)
 cases hm
 refine ⟨_, _, rfl, Nl rfl, ?_⟩
 exact ⟨i, u, y, rfl, C, ⟨(Jg (A := (fun x => (x = gp0_0 ∧ zp0_0 ≠ 0) ∨ w.heap.size ≤ x)) k Qj)⟩, B, D⟩
theorem Qef {p0 vp0_2 zp0_2 gp0_2 op0_2 vp0_4 zp0_4 gp0_4 op0_4 vp0_39 zp0_39 gp0_39 op0_39 r} (hm : Qav p0 = some r) {w : World} (aJ : Rd w zp0_2 gp0_2 op0_2 18 vp0_2 (p0.Head.Items.map Zd.cs)) (aK : Rd w zp0_4 gp0_4 op0_4 2 vp0_4 (p0.Head.Points.map Qu.cs)) (T : Rd w zp0_39 gp0_39 op0_39 1 vp0_39 (p0.Data.map Xq)) :
    Calls Tryz.prog 52 [.agg (Ze.cs p0 vp0_2 vp0_4 vp0_39).toArray].toArray w fun e w' => ∃ v, e = .returned v ∧ (∃ ur0_s zr0_s gr0_s, v = ur0_s ∧ Qn w' zr0_s gr0_s 5 1 ur0_s (r.map Xq) ∧ Zm (zr0_s = 0 ∨ w.heap.size ≤ gr0_s) ∧ Gr w w') := by
 have R := aJ.lth
 have E := aK.lth
 have H := T.lth
 unfold Qav at hm
 refine Xe 120 Tryz.func52 rfl rfl rfl<|qs 2 rfl<|qe rfl (Qy (cs := Ze.cs p0 vp0_2 vp0_4 vp0_39) rfl rfl) ?_
 rintro _ w1 ⟨b1, rfl, c8, bR, G1⟩
 have dg := bR.lt
 refine qm rfl<|qd 3 rfl<|qv rfl (Zv (cs := Kq.cs (Kq.mk []) (.slice none 0 0)) Qwe rfl rfl)<|qe rfl (Qy (cs := Kq.cs (Kq.mk []) (.slice none 0 0)) rfl rfl) ?_
 rintro _ w2 ⟨b2, rfl, c9, bS, G2⟩
 have z6 := G2.size
 have di := bS.lt
 refine qm rfl<|qd 5 rfl<|qm rfl<|qv rfl (Qb Fl rfl) ?_
 have B8 := (bR.gr G2)
 refine qv rfl (Qd (v := bv p0.Kind) Xs rfl B8 rfl)<|qv rfl (Qd2 Nw rfl) ?_
 obtain ⟨x1, cq, hm⟩ := Qc hm
 refine qe rfl (eC Gw rfl (Gx cq bS (Ji _ 0 5 1) ⟨Qj⟩)) ?_
 rintro _ w3 ⟨bT, I, J, rfl, ad, d, aL, K3⟩
 have z9 := K3.size
 refine Qa<|Qe<|qs 3 rfl<|qv rfl (Qb Fl rfl) ?_
 have aM := (B8.kz K3)
 refine qv rfl (Qd (v := bv p0.Kind) Xs rfl aM rfl)<|qv rfl (Yz (p := p0.Kind) (q := 2#8) rfl rfl)<|Qa<|Xj rfl (fun c1 => ?_) (fun c1 => ?_)
 · replace hm := iT c1 hm
   refine qs 5 rfl<|qm rfl<|qv rfl (Qb Ca rfl)<|qv rfl (Qd (v := bv p0.Low) Xs rfl aM rfl)<|qv rfl (Qd2 Nw rfl) ?_
   obtain ⟨x2, cr, hm⟩ := Qc hm
   refine qe rfl (eC Gw rfl (Gx cr aL ad ⟨(Qk (Xp (b := b2) d (.inl rfl)))⟩)) ?_
   rintro _ w4 ⟨bU, aN, aO, rfl, aP, C, bo, K4⟩
   have dj := K4.size
   refine qd 4 rfl<|qm rfl<|qv rfl (Qb Qb7 rfl) ?_
   have bV := (aM.kz K4 (Qk (Xp (b := b1) d (.inl rfl))))
   refine qv rfl (Qd (v := wv p0.Number) Xm rfl bV rfl) ?_
   obtain ⟨x3, ct, hm⟩ := Qc hm
   refine qe rfl (eC Gw rfl (Gx ct bo aP ⟨(Qk (Xp (b := b2) C (Xp d (.inl rfl))))⟩)) ?_
   rintro _ w5 ⟨bW, aQ, aR, rfl, aS, F, bp, K5⟩
   have dk := K5.size
   refine qd 6 rfl<|qm rfl<|qv rfl (Qb Gc rfl) ?_
   have bX := (bV.kz K5 (Qk (Xp (b := b1) C (Xp d (.inl rfl)))))
   refine qv rfl (Qd (v := vp0_39) Hj rfl bX rfl) ?_
   have Y1 := Gr.trans G1 G2
   have bY := ((((T.gr Y1).kz K3 (Qk (Xd (b := b2) H))).kz K4 (Ke ((Jl (Xc (A := (fun x => zp0_39 = 0 ∨ x ≠ gp0_39)) d (.inl rfl) (fun x hx => (Qk H.o)))) : zp0_39 = 0 ∨ I = 0 ∨ gp0_39 ≠ J) (Xd (b := b2) H))).kz K5 (Ke ((Jl (Xc (A := (fun x => zp0_39 = 0 ∨ x ≠ gp0_39)) C (Xc (A := (fun x => zp0_39 = 0 ∨ x ≠ gp0_39)) d (.inl rfl) (fun x hx => (Qk H.o))) (fun x hx => (Qk H.o)))) : zp0_39 = 0 ∨ aN = 0 ∨ gp0_39 ≠ aO) (Xd (b := b2) H)))
   refine qv rfl (Zo (l := p0.Data) (c := Xq) Tryz.underlying32 rfl bY)<|qv rfl (Yb Ye rfl) ?_
   obtain ⟨x4, cu, hm⟩ := Qc hm
   refine qe rfl (eC Gw rfl (Gx cu bp aS ⟨(Qk (Xp (b := b2) F (Xp C (Xp d (.inl rfl)))))⟩)) ?_
   rintro _ w6 ⟨aT, u, t, rfl, aU, K, bq, K6⟩
   have dl := K6.size
   refine Qa<|Qe<|dw [([] ++ zf u t)] [] (.leaf [(0,10),(1,10),(2,10),(3,10),(4,10),(5,10),(6,0),(7,10)]) ?_
   intro w7 G7 dp
   refine Zj<|dn 0 rfl rfl (Kp.refl ([] ++ zf u t) w7)<|qh 0 rfl rfl (Kp.refl ([] ++ zf u t) w7) (fun w hS => Lm rfl rfl)<|qh 0 rfl rfl (Kp.refl ([] ++ zf u t) w7) (fun w hS => Qb Qb5 rfl) ?_
   have cv := (bq.gr G7)
   refine qh 0 rfl rfl (Kp.refl ([] ++ zf u t) w7) (fun w hS => Qd (v := aT) Hj rfl (Bx.kp cv hS (Qk (Xp (b := b2) K (Xp F (Xp C (Xp d (.inl rfl))))))) rfl)<|qh 0 rfl rfl (Kp.refl ([] ++ zf u t) w7) (fun w hS => Qb Gc rfl) ?_
   have cw := ((bX.kz K6 (Qk (Xp (b := b1) F (Xp C (Xp d (.inl rfl)))))).gr G7)
   refine qh 0 rfl rfl (Kp.refl ([] ++ zf u t) w7) (fun w hS => Qd (v := vp0_39) Hj rfl (Bx.kp cw hS (Qk (Xp (b := b1) K (Xp F (Xp C (Xp d (.inl rfl))))))) rfl) ?_
   have cx := (aU.gr G7)
   have cy := ((bY.kz K6 (Ke ((Jl (Xc (A := (fun x => zp0_39 = 0 ∨ x ≠ gp0_39)) F (Xc (A := (fun x => zp0_39 = 0 ∨ x ≠ gp0_39)) C (Xc (A := (fun x => zp0_39 = 0 ∨ x ≠ gp0_39)) d (.inl rfl) (fun x hx => (Qk H.o))) (fun x hx => (Qk H.o))) (fun x hx => (Qk H.o)))) : zp0_39 = 0 ∨ aQ = 0 ∨ gp0_39 ≠ aR) (Xd (b := b2) H))).gr G7)
   obtain ⟨l5, cz, hm⟩ := Qc hm
   refine qz [(u, t)] rfl (Vl (l := x4.out) (m := p0.Data) (c := Xq) Wf rfl rfl cx cy cz (by decide)) ⟨fun _ => (Qk (Qj : u = 0 ∨ (t = t ∧ u ≠ 0) ∨ w7.heap.size ≤ t)), trivial⟩ ?_
   rintro cA w8 ⟨cB, cC, cD, br, dq, cE⟩
   refine ⟨Kz.ofKa br, ?_⟩
   have cF := ((Kp.refl ([] ++ zf u t) w7).ka br (Qk (Qj : u = 0 ∨ (t = t ∧ u ≠ 0) ∨ w7.heap.size ≤ t)))
   refine dn 0 rfl rfl cF<|qb ?_
   have cG := ((((((((Gr.refl w).trans Y1).kz K3).kz K4 (Qk (Xc (A := (fun x => w.heap.size ≤ x)) d (.inl rfl)))).kz K5 (Qk (Xc (A := (fun x => w.heap.size ≤ x)) C (Xc (A := (fun x => w.heap.size ≤ x)) d (.inl rfl))))).kz K6 (Qk (Xc (A := (fun x => w.heap.size ≤ x)) F (Xc (A := (fun x => w.heap.size ≤ x)) C (Xc (A := (fun x => w.heap.size ≤ x)) d (.inl rfl)))))).trans G7).ka br (Qk (Xc (A := (fun x => w.heap.size ≤ x)) K (Xc (A := (fun x => w.heap.size ≤ x)) F (Xc (A := (fun x => w.heap.size ≤ x)) C (Xc (A := (fun x => w.heap.size ≤ x)) d (.inl rfl)))))))
   cases hm
   refine ⟨_, _, rfl, Qt rfl (Qg rfl), ?_⟩
   exact ⟨cA, cB, cC, rfl, cD, ⟨(Jg (A := (fun x => w.heap.size ≤ x)) cE (Xc (A := (fun x => w.heap.size ≤ x)) K (Xc (A := (fun x => w.heap.size ≤ x)) F (Xc (A := (fun x => w.heap.size ≤ x)) C (Xc (A := (fun x => w.heap.size ≤ x)) d (.inl rfl))))))⟩, cG⟩
 replace hm := iF c1 hm
 refine qu<|qs 5 rfl<|qm rfl<|qv rfl (Qb Pn rfl)<|qv rfl (Qd (v := .int .i64 p0.Epoch) Qv rfl aM rfl)<|qv rfl (Yb Ye rfl) ?_
 obtain ⟨x6, cH, hm⟩ := Qc hm
 refine qe rfl (eC Gw rfl (Gx cH aL ad ⟨(Qk (Xp (b := b2) d (.inl rfl)))⟩)) ?_
 rintro _ w9 ⟨bZ, P, Q, rfl, aV, f, bs, K9⟩
 have dr := K9.size
 refine qd 7 rfl<|qm rfl<|qv rfl (Qb Yl rfl)<|qv rfl (Qb Wg rfl) ?_
 have b0 := (aM.kz K9 (Qk (Xp (b := b1) d (.inl rfl))))
 refine qv rfl (Qd (v := vp0_2) Wh rfl b0 rfl) ?_
 have Y2 := Gr.trans G1 G2
 have b3 := (((aJ.gr Y2).kz K3 (Qk (Xd (b := b2) R))).kz K9 (Ke ((Jl (Xc (A := (fun x => zp0_2 = 0 ∨ x ≠ gp0_2)) d (.inl rfl) (fun x hx => (Qk R.o)))) : zp0_2 = 0 ∨ I = 0 ∨ gp0_2 ≠ J) (Xd (b := b2) R)))
 refine qv rfl (Zo (l := p0.Head.Items) (c := Zd.cs) Tryz.underlying33 rfl b3)<|qv rfl (Yb Ye rfl) ?_
 obtain ⟨x7, cI, hm⟩ := Qc hm
 refine qe rfl (eC Gw rfl (Gx cI bs aV ⟨(Qk (Xp (b := b2) f (Xp d (.inl rfl))))⟩)) ?_
 rintro _ L ⟨ae, j, n, rfl, af, g, aY, ag⟩
 have ds := ag.size
 refine Qa<|Qe<|qs 5 rfl<|qv rfl (Qb Yl rfl)<|qv rfl (Qb Wg rfl) ?_
 have b4 := (b0.kz ag (Qk (Xp (b := b1) f (Xp d (.inl rfl)))))
 refine qv rfl (Qd (v := vp0_2) Wh rfl b4 rfl) ?_
 have b5 := (b3.kz ag (Ke ((Jl (Xc (A := (fun x => zp0_2 = 0 ∨ x ≠ gp0_2)) f (Xc (A := (fun x => zp0_2 = 0 ∨ x ≠ gp0_2)) d (.inl rfl) (fun x hx => (Qk R.o))) (fun x hx => (Qk R.o)))) : zp0_2 = 0 ∨ P = 0 ∨ gp0_2 ≠ Q) (Xd (b := b2) R)))
 refine qv rfl (Zo (l := p0.Head.Items) (c := Zd.cs) Tryz.underlying33 rfl b5)<|qm rfl<|Qa<|Xi ?_
 have cJ := (((((Gr.refl w).trans Y2).kz K3).kz K9 (Qk (Xc (A := (fun x => w.heap.size ≤ x)) d (.inl rfl)))).kz ag (Qk (Xc (A := (fun x => w.heap.size ≤ x)) f (Xc (A := (fun x => w.heap.size ≤ x)) d (.inl rfl)))))
 have cK := ((((aK.gr Y2).kz K3 (Qk (Xd (b := b2) E))).kz K9 (Ke ((Jl (Xc (A := (fun x => zp0_4 = 0 ∨ x ≠ gp0_4)) d (.inl rfl) (fun x hx => (Qk E.o)))) : zp0_4 = 0 ∨ I = 0 ∨ gp0_4 ≠ J) (Xd (b := b2) E))).kz ag (Ke ((Jl (Xc (A := (fun x => zp0_4 = 0 ∨ x ≠ gp0_4)) f (Xc (A := (fun x => zp0_4 = 0 ∨ x ≠ gp0_4)) d (.inl rfl) (fun x hx => (Qk E.o))) (fun x hx => (Qk E.o)))) : zp0_4 = 0 ∨ P = 0 ∨ gp0_4 ≠ Q) (Xd (b := b2) E)))
 have dt := ((((T.gr Y2).kz K3 (Qk (Xd (b := b2) H))).kz K9 (Ke ((Jl (Xc (A := (fun x => zp0_39 = 0 ∨ x ≠ gp0_39)) d (.inl rfl) (fun x hx => (Qk H.o)))) : zp0_39 = 0 ∨ I = 0 ∨ gp0_39 ≠ J) (Xd (b := b2) H))).kz ag (Ke ((Jl (Xc (A := (fun x => zp0_39 = 0 ∨ x ≠ gp0_39)) f (Xc (A := (fun x => zp0_39 = 0 ∨ x ≠ gp0_39)) d (.inl rfl) (fun x hx => (Qk H.o))) (fun x hx => (Qk H.o)))) : zp0_39 = 0 ∨ P = 0 ∨ gp0_39 ≠ Q) (Xd (b := b2) H)))
 refine Zq (α := Nat × Int × Kq × Value × Nat × Nat) ([5] ++ rg 56 21) (fun ⟨n1, U, ah, vy13, zy13, gy13⟩ => [(56, .int .i64 U)]) (fun ⟨n1, U, ah, vy13, zy13, gy13⟩ wr => (Qr (Qaw p0) n1 (U, ah) = some r) ∧ Qn wr zy13 gy13 5 1 vy13 (ah.out.map Xq) ∧ Zm (zy13 = 0 ∨ (gy13 = n ∧ j ≠ 0) ∨ L.heap.size ≤ gy13) ∧ Bx wr b2 214 (Kq.cs ah vy13) ∧ Kz [(1, b2), (j, n)] L wr) (fun ⟨n1, U, ah, vy13, zy13, gy13⟩ => n1) ⟨Xb, 0, x7, ae, j, n⟩ ?_ ?_ ?_
 · exact Qf
 · exact ⟨hm, af, ⟨Qj⟩, aY, Kz.refl _ _⟩
 clear hm; rintro ⟨n1, U, ah, vy13, zy13, gy13⟩ du ⟨hm, V, h, W, ai⟩
 have dv := ai.size
 have aW := V.lth
 have da := W.lt
 have hb := Zx hm; clear hm; obtain ⟨n1, rfl, hm⟩ := hb
 generalize bu : Qr (Qaw p0) n1 = db at hm
 unfold Qaw at hm
 try dsimp only at hm
 refine qs 1 rfl<|qv rfl (Zc (a := U) (b := (p0.Head.Items.length : Int)) rfl rfl)<|Qa<|Qe<|Xj rfl (fun c2 => ?_) (fun c2 => ?_)
 · replace hm := iT c2 hm
   refine qu<|Qe<|Xi<|qs 4 rfl ?_
   obtain ⟨bx, bg, hm⟩ := Qc hm
   have b6 := (b5.kz ai (Ke ((Jl (Xc (A := (fun x => zp0_2 = 0 ∨ x ≠ gp0_2)) g (Xc (A := (fun x => zp0_2 = 0 ∨ x ≠ gp0_2)) f (Xc (A := (fun x => zp0_2 = 0 ∨ x ≠ gp0_2)) d (.inl rfl) (fun x hx => (Qk R.o))) (fun x hx => (Qk R.o))) (fun x hx => (Qk R.o)))) : zp0_2 = 0 ∨ j = 0 ∨ gp0_2 ≠ n) (Xd (b := b2) R)))
   refine qv rfl (Jm (i := U) Tryz.underlying33 (Ph).siz rfl b6 rfl bg)<|qv rfl (Hc Ph rfl b6 bg (by first | rfl | omega))<|qe rfl (Xh (cs := Zd.cs (Zd.mk (Xo.mk 0 0) k0)) Qoy rfl) ?_
   rintro _ dy ⟨b7, rfl, cL, bh, aZ⟩
   have dz := aZ.size
   have dc := bh.lt
   refine qe rfl (Qx Ph rfl rfl rfl bh rfl rfl) ?_
   rintro _ dA ⟨bi, a0⟩
   have dB := a0.size
   refine qd 6 rfl<|qm rfl<|qv rfl (Qb Gb rfl)<|qv rfl (Qb Wt rfl)<|qv rfl (Qd (v := .int .i64 bx.Subset.Node) Qv rfl bi rfl)<|qv rfl (Yb Ye rfl) ?_
   have cM := ((W.gr aZ).md a0)
   have cN := ((V.gr aZ).md a0 (Xd aW))
   obtain ⟨dC, b8, hm⟩ := Qc hm
   refine qe rfl (eC Gw rfl (Gx b8 cM cN ⟨(Qk (Xp (b := b2) h (Xp g (Xp f (Xp d (.inl rfl))))))⟩)) ?_
   rintro _ dD ⟨bE, bF, bG, rfl, aj, G, a1, bz⟩
   have dE := bz.size
   refine qd 6 rfl<|qm rfl<|qv rfl (Qb Gb rfl)<|qv rfl (Qb Vu rfl) ?_
   have b9 := (bi.kz bz (Qk (Xd (b := b7) aW)))
   refine qv rfl (Qd (v := .int .i64 bx.Subset.Minus) Qv rfl b9 rfl)<|qv rfl (Yb Ye rfl) ?_
   obtain ⟨dF, ca, hm⟩ := Qc hm
   refine qe rfl (eC Gw rfl (Gx ca a1 aj ⟨(Qk (Xp (b := b2) G (Xp h (Xp g (Xp f (Xp d (.inl rfl)))))))⟩)) ?_
   rintro _ dG ⟨bH, bI, bJ, rfl, ak, M, a2, bA⟩
   have dH := bA.size
   refine Qa<|qg 4 rfl<|qm rfl<|qv rfl (Qb Qid rfl) ?_
   have cO := (b9.kz bA (Qk (Xp (b := b7) G (Xd aW))))
   refine qv rfl (Zy (vs := kb bx.Box) Ql rfl cO rfl rfl) ?_
   obtain ⟨cP, cb, hm⟩ := Qc hm
   refine qe rfl (eC Qlg rfl (Qm9 cb a2 ak ⟨(Qk (Xp (b := b2) M (Xp G (Xp h (Xp g (Xp f (Xp d (.inl rfl))))))))⟩)) ?_
   rintro _ cQ ⟨al, am, an, rfl, ao, ap, a3, cR⟩
   refine Qh<|Xy<|Xl<|qg 2 rfl<|qv rfl (Zg (k := .i64) (a := U) (b := 1) rfl rfl)<|qm rfl<|Qh ?_
   have K_56 : Kz [(1, b2), (j, n)] L cQ := (((((ai.gr aZ).md a0).kz bz (Qk (Xc (A := (fun x => (x = n ∧ j ≠ 0) ∨ L.heap.size ≤ x)) h Qj))).kz bA (Qk (Xc (A := (fun x => (x = n ∧ j ≠ 0) ∨ L.heap.size ≤ x)) G (Xc (A := (fun x => (x = n ∧ j ≠ 0) ∨ L.heap.size ≤ x)) h Qj)))).kz cR (Qk (Xc (A := (fun x => (x = n ∧ j ≠ 0) ∨ L.heap.size ≤ x)) M (Xc (A := (fun x => (x = n ∧ j ≠ 0) ∨ L.heap.size ≤ x)) G (Xc (A := (fun x => (x = n ∧ j ≠ 0) ∨ L.heap.size ≤ x)) h Qj)))))
   subst bu
   exact ⟨rfl, ⟨n1, Qi (U + 1), cP, al, am, an⟩, Qf, ⟨hm, ao, ⟨(Xc (A := (fun x => (x = n ∧ j ≠ 0) ∨ L.heap.size ≤ x)) ap (Xc (A := (fun x => (x = n ∧ j ≠ 0) ∨ L.heap.size ≤ x)) M (Xc (A := (fun x => (x = n ∧ j ≠ 0) ∨ L.heap.size ≤ x)) G (Xc (A := (fun x => (x = n ∧ j ≠ 0) ∨ L.heap.size ≤ x)) h Qj))))⟩, a3, K_56⟩, Nat.lt_succ_self _⟩
 replace hm := iF c2 hm
 refine Zl<|Xk<|Xk<|Zk<|Xl<|qs 5 rfl<|qm rfl<|qv rfl (Qb Yl rfl)<|qv rfl (Qb Gy rfl) ?_
 have cc := (b4.kz ai (Qk (Xp (b := b1) g (Xp f (Xp d (.inl rfl))))))
 refine qv rfl (Qd (v := wv p0.Head.Base) Xm rfl cc rfl) ?_
 obtain ⟨dI, cd, hm⟩ := Qc hm
 refine qe rfl (eC Gw rfl (Gx cd W V ⟨(Qk (Xp (b := b2) h (Xp g (Xp f (Xp d (.inl rfl))))))⟩)) ?_
 rintro _ dJ ⟨bK, aq, ar, rfl, au, s, a4, a5⟩
 have dK := a5.size
 refine qd 7 rfl<|qm rfl<|qv rfl (Qb Yl rfl)<|qv rfl (Qb Yw rfl) ?_
 have ce := (cc.kz a5 (Qk (Xp (b := b1) h (Xp g (Xp f (Xp d (.inl rfl)))))))
 refine qv rfl (Qd (v := vp0_4) Yx rfl ce rfl) ?_
 have cf := ((cK.kz ai (Ke ((Jl (Xc (A := (fun x => zp0_4 = 0 ∨ x ≠ gp0_4)) g (Xc (A := (fun x => zp0_4 = 0 ∨ x ≠ gp0_4)) f (Xc (A := (fun x => zp0_4 = 0 ∨ x ≠ gp0_4)) d (.inl rfl) (fun x hx => (Qk E.o))) (fun x hx => (Qk E.o))) (fun x hx => (Qk E.o)))) : zp0_4 = 0 ∨ j = 0 ∨ gp0_4 ≠ n) (Xd (b := b2) E))).kz a5 (Ke ((Jl (Xc (A := (fun x => zp0_4 = 0 ∨ x ≠ gp0_4)) h (Xc (A := (fun x => zp0_4 = 0 ∨ x ≠ gp0_4)) g (Xc (A := (fun x => zp0_4 = 0 ∨ x ≠ gp0_4)) f (Xc (A := (fun x => zp0_4 = 0 ∨ x ≠ gp0_4)) d (.inl rfl) (fun x hx => (Qk E.o))) (fun x hx => (Qk E.o))) (fun x hx => (Qk E.o))) (fun x hx => (Qk E.o)))) : zp0_4 = 0 ∨ zy13 = 0 ∨ gp0_4 ≠ gy13) (Xd (b := b2) E)))
 refine qv rfl (Zo (l := p0.Head.Points) (c := Qu.cs) Tryz.underlying34 rfl cf)<|qv rfl (Yb Ye rfl) ?_
 obtain ⟨cS, cg, hm⟩ := Qc hm
 refine qe rfl (eC Gw rfl (Gx cg a4 au ⟨(Qk (Xp (b := b2) s (Xp h (Xp g (Xp f (Xp d (.inl rfl)))))))⟩)) ?_
 rintro _ Z ⟨av, y, z, rfl, aw, B, a6, a7⟩
 have dL := a7.size
 refine Qa<|Qe<|qs 5 rfl<|qv rfl (Qb Yl rfl)<|qv rfl (Qb Yw rfl) ?_
 have ch := (ce.kz a7 (Qk (Xp (b := b1) s (Xp h (Xp g (Xp f (Xp d (.inl rfl))))))))
 refine qv rfl (Qd (v := vp0_4) Yx rfl ch rfl) ?_
 have ci := (cf.kz a7 (Ke ((Jl (Xc (A := (fun x => zp0_4 = 0 ∨ x ≠ gp0_4)) s (Xc (A := (fun x => zp0_4 = 0 ∨ x ≠ gp0_4)) h (Xc (A := (fun x => zp0_4 = 0 ∨ x ≠ gp0_4)) g (Xc (A := (fun x => zp0_4 = 0 ∨ x ≠ gp0_4)) f (Xc (A := (fun x => zp0_4 = 0 ∨ x ≠ gp0_4)) d (.inl rfl) (fun x hx => (Qk E.o))) (fun x hx => (Qk E.o))) (fun x hx => (Qk E.o))) (fun x hx => (Qk E.o))) (fun x hx => (Qk E.o)))) : zp0_4 = 0 ∨ aq = 0 ∨ gp0_4 ≠ ar) (Xd (b := b2) E)))
 refine qv rfl (Zo (l := p0.Head.Points) (c := Qu.cs) Tryz.underlying34 rfl ci)<|qm rfl<|Qa<|Xi ?_
 have cT := (((cJ.kz ai (Qk (Xc (A := (fun x => w.heap.size ≤ x)) g (Xc (A := (fun x => w.heap.size ≤ x)) f (Xc (A := (fun x => w.heap.size ≤ x)) d (.inl rfl)))))).kz a5 (Qk (Xc (A := (fun x => w.heap.size ≤ x)) h (Xc (A := (fun x => w.heap.size ≤ x)) g (Xc (A := (fun x => w.heap.size ≤ x)) f (Xc (A := (fun x => w.heap.size ≤ x)) d (.inl rfl))))))).kz a7 (Qk (Xc (A := (fun x => w.heap.size ≤ x)) s (Xc (A := (fun x => w.heap.size ≤ x)) h (Xc (A := (fun x => w.heap.size ≤ x)) g (Xc (A := (fun x => w.heap.size ≤ x)) f (Xc (A := (fun x => w.heap.size ≤ x)) d (.inl rfl))))))))
 refine Zq (α := Nat × Int × Kq × Value × Nat × Nat) ([7] ++ rg 93 13) (fun ⟨n2, aa, ax, vy25, zy25, gy25⟩ => [(93, .int .i64 aa)]) (fun ⟨n2, aa, ax, vy25, zy25, gy25⟩ wr => (Qr (Qax p0) n2 (aa, ax) = some r) ∧ Qn wr zy25 gy25 5 1 vy25 (ax.out.map Xq) ∧ Zm (zy25 = 0 ∨ (gy25 = z ∧ y ≠ 0) ∨ Z.heap.size ≤ gy25) ∧ Bx wr b2 214 (Kq.cs ax vy25) ∧ Kz [(1, b2), (y, z)] Z wr) (fun ⟨n2, aa, ax, vy25, zy25, gy25⟩ => n2) ⟨Xb, 0, cS, av, y, z⟩ ?_ ?_ ?_
 · exact Qf
 · exact ⟨hm, aw, ⟨Qj⟩, a6, Kz.refl _ _⟩
 clear hm; rintro ⟨n2, aa, ax, vy25, zy25, gy25⟩ dM ⟨hm, ab, D, ac, aX⟩
 have dN := aX.size
 have bj := ab.lth
 have dd := ac.lt
 have hb := Zx hm; clear hm; obtain ⟨n2, rfl, hm⟩ := hb
 generalize bB : Qr (Qax p0) n2 = de at hm
 unfold Qax at hm
 try dsimp only at hm
 refine qs 1 rfl<|qv rfl (Zc (a := aa) (b := (p0.Head.Points.length : Int)) rfl rfl)<|Qa<|Qe<|Xj rfl (fun c3 => ?_) (fun c3 => ?_)
 · replace hm := iT c3 hm
   refine qu<|Qe<|Xi<|qs 4 rfl ?_
   obtain ⟨cj, bk, hm⟩ := Qc hm
   have ck := (ci.kz aX (Ke ((Jl (Xc (A := (fun x => zp0_4 = 0 ∨ x ≠ gp0_4)) B (Xc (A := (fun x => zp0_4 = 0 ∨ x ≠ gp0_4)) s (Xc (A := (fun x => zp0_4 = 0 ∨ x ≠ gp0_4)) h (Xc (A := (fun x => zp0_4 = 0 ∨ x ≠ gp0_4)) g (Xc (A := (fun x => zp0_4 = 0 ∨ x ≠ gp0_4)) f (Xc (A := (fun x => zp0_4 = 0 ∨ x ≠ gp0_4)) d (.inl rfl) (fun x hx => (Qk E.o))) (fun x hx => (Qk E.o))) (fun x hx => (Qk E.o))) (fun x hx => (Qk E.o))) (fun x hx => (Qk E.o))) (fun x hx => (Qk E.o)))) : zp0_4 = 0 ∨ y = 0 ∨ gp0_4 ≠ z) (Xd (b := b2) E)))
   refine qv rfl (Jm (i := aa) Tryz.underlying34 (Vk).siz rfl ck rfl bk)<|qv rfl (Hc Vk rfl ck bk (by first | rfl | omega))<|qe rfl (Xh (cs := Qu.cs (Qu.mk 0#64 0#64)) Ug rfl) ?_
   rintro _ dO ⟨cU, rfl, cV, bl, a8⟩
   have dP := a8.size
   have df := bl.lt
   refine qe rfl (Qx Vk rfl rfl rfl bl rfl rfl) ?_
   rintro _ dQ ⟨bm, a9⟩
   have dR := a9.size
   refine qd 4 rfl<|qm rfl<|qv rfl (Qb Ha rfl)<|qv rfl (Qd (v := wv cj.X) Xm rfl bm rfl) ?_
   have cW := ((ac.gr a8).md a9)
   have cX := ((ab.gr a8).md a9 (Xd bj))
   obtain ⟨dS, cl, hm⟩ := Qc hm
   refine qe rfl (eC Gw rfl (Gx cl cW cX ⟨(Qk (Xp (b := b2) D (Xp B (Xp s (Xp h (Xp g (Xp f (Xp d (.inl rfl)))))))))⟩)) ?_
   rintro _ dT ⟨bL, bM, bN, rfl, ay, N, ba, bC⟩
   have dU := bC.size
   refine Qa<|qg 4 rfl<|qm rfl<|qv rfl (Qb Gz rfl) ?_
   have cY := (bm.kz bC (Qk (Xd (b := cU) bj)))
   refine qv rfl (Qd (v := wv cj.Y) Xm rfl cY rfl) ?_
   obtain ⟨cZ, cm, hm⟩ := Qc hm
   refine qe rfl (eC Gw rfl (Gx cm ba ay ⟨(Qk (Xp (b := b2) N (Xp D (Xp B (Xp s (Xp h (Xp g (Xp f (Xp d (.inl rfl))))))))))⟩)) ?_
   rintro _ c0 ⟨az, aA, aB, rfl, aC, aD, bb, c4⟩
   refine Qh<|Xy<|Xl<|qg 2 rfl<|qv rfl (Zg (k := .i64) (a := aa) (b := 1) rfl rfl)<|qm rfl<|Qh ?_
   have K_83 : Kz [(1, b2), (y, z)] Z c0 := ((((aX.gr a8).md a9).kz bC (Qk (Xc (A := (fun x => (x = z ∧ y ≠ 0) ∨ Z.heap.size ≤ x)) D Qj))).kz c4 (Qk (Xc (A := (fun x => (x = z ∧ y ≠ 0) ∨ Z.heap.size ≤ x)) N (Xc (A := (fun x => (x = z ∧ y ≠ 0) ∨ Z.heap.size ≤ x)) D Qj))))
   subst bB
   exact ⟨rfl, ⟨n2, Qi (aa + 1), cZ, az, aA, aB⟩, Qf, ⟨hm, aC, ⟨(Xc (A := (fun x => (x = z ∧ y ≠ 0) ∨ Z.heap.size ≤ x)) aD (Xc (A := (fun x => (x = z ∧ y ≠ 0) ∨ Z.heap.size ≤ x)) N (Xc (A := (fun x => (x = z ∧ y ≠ 0) ∨ Z.heap.size ≤ x)) D Qj)))⟩, bb, K_83⟩, Nat.lt_succ_self _⟩
 replace hm := iF c3 hm
 refine Zl<|Xk<|Xk<|Zk<|Xl<|qs 5 rfl<|qm rfl<|qv rfl (Qb Yl rfl)<|qv rfl (Qb Bw rfl) ?_
 have cn := (ch.kz aX (Qk (Xp (b := b1) B (Xp s (Xp h (Xp g (Xp f (Xp d (.inl rfl)))))))))
 refine qv rfl (Zy (vs := kb p0.Head.Box) Ql rfl cn rfl rfl) ?_
 obtain ⟨dV, co, hm⟩ := Qc hm
 refine qe rfl (eC Qlg rfl (Qm9 co ac ab ⟨(Qk (Xp (b := b2) D (Xp B (Xp s (Xp h (Xp g (Xp f (Xp d (.inl rfl)))))))))⟩)) ?_
 rintro _ dW ⟨bO, bP, bQ, rfl, aE, O, bd, bD⟩
 have dX := bD.size
 refine qd 5 rfl<|qm rfl<|qv rfl (Qb Yl rfl)<|qv rfl (Qb Bz rfl) ?_
 have c5 := (cn.kz bD (Qk (Xp (b := b1) D (Xp B (Xp s (Xp h (Xp g (Xp f (Xp d (.inl rfl))))))))))
 refine qv rfl (Zy (vs := kb p0.Head.Check) Ql rfl c5 rfl rfl) ?_
 obtain ⟨dY, cp, hm⟩ := Qc hm
 refine qe rfl (eC Qlg rfl (Qm9 cp bd aE ⟨(Qk (Xp (b := b2) O (Xp D (Xp B (Xp s (Xp h (Xp g (Xp f (Xp d (.inl rfl))))))))))⟩)) ?_
 rintro _ dZ ⟨S, aF, aG, rfl, aH, aI, bf, c6⟩
 refine qd 5 rfl<|qm rfl<|qv rfl (Lm rfl rfl)<|qv rfl (Qb Qb5 rfl)<|qv rfl (Qd (v := S) Hj rfl bf rfl)<|qm rfl<|Qa<|Qo ?_
 have c7 := (((cT.kz aX (Qk (Xc (A := (fun x => w.heap.size ≤ x)) B (Xc (A := (fun x => w.heap.size ≤ x)) s (Xc (A := (fun x => w.heap.size ≤ x)) h (Xc (A := (fun x => w.heap.size ≤ x)) g (Xc (A := (fun x => w.heap.size ≤ x)) f (Xc (A := (fun x => w.heap.size ≤ x)) d (.inl rfl))))))))).kz bD (Qk (Xc (A := (fun x => w.heap.size ≤ x)) D (Xc (A := (fun x => w.heap.size ≤ x)) B (Xc (A := (fun x => w.heap.size ≤ x)) s (Xc (A := (fun x => w.heap.size ≤ x)) h (Xc (A := (fun x => w.heap.size ≤ x)) g (Xc (A := (fun x => w.heap.size ≤ x)) f (Xc (A := (fun x => w.heap.size ≤ x)) d (.inl rfl)))))))))).kz c6 (Qk (Xc (A := (fun x => w.heap.size ≤ x)) O (Xc (A := (fun x => w.heap.size ≤ x)) D (Xc (A := (fun x => w.heap.size ≤ x)) B (Xc (A := (fun x => w.heap.size ≤ x)) s (Xc (A := (fun x => w.heap.size ≤ x)) h (Xc (A := (fun x => w.heap.size ≤ x)) g (Xc (A := (fun x => w.heap.size ≤ x)) f (Xc (A := (fun x => w.heap.size ≤ x)) d (.inl rfl)))))))))))
 cases hm
 refine ⟨_, _, rfl, Qt rfl (Qg rfl), ?_⟩
 exact ⟨S, aF, aG, rfl, aH, ⟨(Xc (A := (fun x => w.heap.size ≤ x)) aI (Xc (A := (fun x => w.heap.size ≤ x)) O (Xc (A := (fun x => w.heap.size ≤ x)) D (Xc (A := (fun x => w.heap.size ≤ x)) B (Xc (A := (fun x => w.heap.size ≤ x)) s (Xc (A := (fun x => w.heap.size ≤ x)) h (Xc (A := (fun x => w.heap.size ≤ x)) g (Xc (A := (fun x => w.heap.size ≤ x)) f (Xc (A := (fun x => w.heap.size ≤ x)) d (.inl rfl))))))))))⟩, c7⟩
theorem Qwv {p0 p1 r} (hm : Qdn p0 p1 = some r) {w : World} :
    Calls Tryz.prog 111 [kv p0, kv p1].toArray w fun e w' => ∃ v, e = .returned v ∧ (v = kv r ∧ Gr w w') := by
 unfold Qdn at hm
 refine Xe 23 Tryz.func111 rfl rfl rfl<|qs 3 rfl<|qe rfl (Qy (cs := kb p0) rfl rfl) ?_
 rintro _ w1 ⟨b1, rfl, D, f, G1⟩
 have H := f.lt
 refine qe rfl (Qy (cs := kb p1) rfl rfl) ?_
 rintro _ w2 ⟨b2, rfl, E, g, G2⟩
 have I := g.lt
 refine qe rfl (Xh (cs := kb k0) Zh rfl) ?_
 rintro _ w3 ⟨b3, rfl, F, j, G3⟩
 refine Qa<|Qe<|qs 3 rfl ?_
 have B7 := ((f.gr G2).gr G3)
 refine qv rfl (Qp Ql rfl B7 rfl) ?_
 have B8 := (g.gr G3)
 refine qv rfl (Qp Ql rfl B8 rfl)<|qv rfl (Ss (cf := kb) (a := p0) (b := p1) Dw rfl rfl rfl rfl (fun h => Hq h))<|Qa<|Xj rfl (fun c1 => ?_) (fun c1 => ?_)
 · replace hm := iT c1 hm
   refine qs 2 rfl<|qv rfl (Vz Vt)<|qe rfl (Qx Ql rfl rfl rfl j rfl rfl) ?_
   rintro _ w4 ⟨o, M4⟩
   refine qb ?_
   have s := (((((Gr.refl w).trans G1).trans G2).trans G3).md M4)
   cases hm
   refine ⟨_, _, rfl, Qt rfl (Xr Ql rfl o rfl), ?_⟩
   exact ⟨rfl, s⟩
 replace hm := iF c1 hm
 refine qu<|Qe<|qs 1 rfl<|qm rfl<|Qa<|Xi ?_
 have t := ((((Gr.refl w).trans G1).trans G2).trans G3)
 refine Zq (α := Nat × Int × W2) ([5] ++ rg 10 12) (fun ⟨n1, a3, a4⟩ => [(10, .int .i64 a3)]) (fun ⟨n1, a3, a4⟩ wr => (Qr (Qa7 p1) n1 (a3, a4) = some r) ∧ Bx wr b1 23 (kb a4) ∧ Kz [(1, b1)] w3 wr) (fun ⟨n1, a3, a4⟩ => n1) ⟨Xb, 0, p0⟩ ?_ ?_ ?_
 · exact Qf
 · exact ⟨hm, B7, Kz.refl _ _⟩
 clear hm; rintro ⟨n1, a3, a4⟩ w5 ⟨hm, c, K5⟩
 have hb := Zx hm; clear hm; obtain ⟨n1, rfl, hm⟩ := hb
 generalize d : Qr (Qa7 p1) n1 = G at hm
 unfold Qa7 at hm
 try dsimp only at hm
 refine qs 1 rfl<|qv rfl (Zc (a := a3) (b := 16) rfl rfl)<|Qa<|Qe<|Zu rfl (fun c2 => ?_) (fun c2 => ?_)
 · replace hm := iF c2 hm
   refine Zl<|Xk<|Xk<|Zk<|Xl<|qs 2 rfl<|qv rfl (Qp Ql rfl c rfl) ?_
   have u := (j.kz K5)
   refine qe rfl (Qx Ql rfl rfl rfl u rfl rfl) ?_
   rintro _ w8 ⟨x, M8⟩
   refine Qa<|Qo ?_
   have y := ((t.kz K5).md M8)
   cases hm
   refine ⟨_, _, rfl, Qt rfl (Xr Ql rfl x rfl), ?_⟩
   exact ⟨rfl, y⟩
 replace hm := iT c2 hm
 refine qu<|Qe<|Xi<|qs 2 rfl<|qm rfl<|qm rfl<|Qa<|dw [([b1]),([])] [(8, [1])] (.leaf [(0,10),(1,10),(2,11),(3,10),(4,10),(5,10),(6,10),(7,10),(8,0)]) ?_
 intro w6 G6 J
 refine Zj<|dm 0 rfl rfl ?_
 obtain ⟨y5, l, hm⟩ := Qc hm
 refine dh 0 rfl rfl (fun w hS => Gj (i := a3) (p := a4) Tryz.underlying23 (Xs).siz rfl rfl l) ?_
 have m := (c.gr G6)
 refine dh 1 rfl rfl (fun w hS => Mu (off := 0) (p := a4) (i := a3) Xs rfl (Bx.kp m hS) rfl l (by omega))<|dm 0 rfl rfl ?_
 obtain ⟨y6, n, hm⟩ := Qc hm
 refine dh 0 rfl rfl (fun w hS => Gj (i := a3) (p := p1) Tryz.underlying23 (Xs).siz rfl rfl n) ?_
 have z := ((B8.kz K5).gr G6)
 refine dh 0 rfl rfl (fun w hS => Mu (off := 0) (p := p1) (i := a3) Xs rfl (Bx.kp z hS) rfl n (by omega))<|dh 0 rfl rfl (fun w hS => Qot (a := y5) (b := y6) rfl rfl) ?_
 obtain ⟨y7, A, hm⟩ := Qc hm
 refine dh 0 rfl rfl (fun w hS => Gj (i := a3) (p := a4) Tryz.underlying23 (Xs).siz rfl rfl A) ?_
 obtain ⟨x8, B, hm⟩ := Qc hm
 refine qz [(1, b1)] rfl (Qep (off := 0) (p := a4) (q := x8) (i := a3) (cs' := kb x8) (Xs).siz rfl rfl m rfl B rfl rfl rfl) ⟨fun _ => Qj, nofun, trivial⟩ ?_
 rintro _ w7 ⟨C, M7⟩
 refine kM M7<|Qh<|Xy<|Xl<|qg 2 rfl<|qv rfl (Zg (k := .i64) (a := a3) (b := 1) rfl rfl)<|qm rfl<|Qh ?_
 have K_17 : Kz [(1, b1)] w3 w7 := ((K5.gr G6).md M7)
 subst d
 exact ⟨rfl, ⟨n1, Qi (a3 + 1), x8⟩, Qf, ⟨hm, C, K_17⟩, Nat.lt_succ_self _⟩
theorem Qwo {p0 p1 p2 bp2 r} (hm : Qho p0 p1 p2 = some r) {w : World} (hbp2 : Bx w bp2 23 (kb p2)) :
    Calls Tryz.prog 110 [kv p0, kv p1, .pointer (some ⟨bp2, 0, none⟩)].toArray w fun e w' => ∃ v, e = .returned v ∧ (v = kv r ∧ Gr w w') := by
 have m := hbp2.lt
 unfold Qho at hm
 refine Xe 11 Tryz.func110 rfl rfl rfl<|qs 3 rfl<|qe rfl (Qy (cs := kb p0) rfl rfl) ?_
 rintro _ w1 ⟨b1, rfl, j, a, G1⟩
 have n := a.lt
 refine qe rfl (Qy (cs := kb p1) rfl rfl) ?_
 rintro _ w2 ⟨b2, rfl, k, b, G2⟩
 have o := b.lt
 refine qe rfl (Xh (cs := kb k0) Zh rfl) ?_
 rintro _ w3 ⟨b3, rfl, l, c, G3⟩
 refine Qa<|Qe<|dw [([b3])] [] (.leaf [(0,10),(1,10),(2,10),(3,0),(4,0),(5,0)]) ?_
 intro w4 G4 p
 refine Zj ?_
 have Y1 := Gr.trans (Gr.trans (Gr.trans G1 G2) G3) G4
 have B8 := (hbp2.gr Y1)
 refine dh 0 rfl rfl (fun w hS => Qp Ql rfl (Bx.kp B8 hS) rfl) ?_
 have Y2 := Gr.trans (Gr.trans G2 G3) G4
 have B9 := (a.gr Y2)
 refine dh 0 rfl rfl (fun w hS => Qp Ql rfl (Bx.kp B9 hS) rfl) ?_
 have Y3 := Gr.trans G3 G4
 have d := (b.gr Y3)
 refine dh 0 rfl rfl (fun w hS => Qp Ql rfl (Bx.kp d hS) rfl) ?_
 obtain ⟨x1, f, hm⟩ := Qc hm
 refine qz [] rfl (eC Qxr rfl (Qwv f)) ⟨fun _ => Qj, trivial⟩ ?_
 rintro _ w5 ⟨rfl, G5⟩
 refine kG G5<|qz [] rfl (eC Qi2 rfl (Qm6 p2 x1 _)) ⟨fun _ => Qj, trivial⟩ ?_
 rintro _ w6 ⟨rfl, G6⟩
 refine kG G6 ?_
 have g := (((c.gr G4).gr G5).gr G6)
 refine qz [(1, b3)] rfl (Qx Ql rfl rfl rfl g rfl rfl) ⟨fun _ => Qj, trivial⟩ ?_
 rintro _ w7 ⟨h, M7⟩
 refine kM M7<|Qa<|Qo ?_
 have i := (((((Gr.refl w).trans Y1).trans G5).trans G6).md M7)
 cases hm
 refine ⟨_, _, rfl, Qt rfl (Xr Ql rfl h rfl), ?_⟩
 exact ⟨rfl, i⟩
theorem Qws {p0 p1 g vp1 zp1 gp1 op1 bp2_0 r} (hm : Qdl p0 p1 g = some r) {w : World} (k : Rd w zp1 gp1 op1 1 vp1 (p1.map Xq)) (hbp2_0 : Bx w bp2_0 23 (kb g)) :
    Calls Tryz.prog 109 [kv p0, vp1, .func (.func 110) [].toArray [.pointer (some ⟨bp2_0, 0, none⟩)].toArray].toArray w fun e w' => ∃ v, e = .returned v ∧ (v = kv r ∧ Gr w w') := by
 have B := k.lth
 have X := hbp2_0.lt
 unfold Qdl at hm
 refine Xe 21 Tryz.func109 rfl rfl rfl<|qs 2 rfl<|qe rfl (Qy (cs := kb p0) rfl rfl) ?_
 rintro _ w1 ⟨b1, rfl, R, m, G1⟩
 have Y := m.lt
 refine qe rfl (Xh (cs := kb k0) Zh rfl) ?_
 rintro _ w2 ⟨b2, rfl, S, q, G2⟩
 have Z := q.lt
 refine Qa<|Qe<|Xi ?_
 have X7 := (((Gr.refl w).trans G1).trans G2)
 have B8 := ((k.gr G1).gr G2)
 have B9 := (m.gr G2)
 refine Zq (α := Nat × List (BitVec 8) × W2 × Value × Nat × Nat × Nat) ([1] ++ rg 7 13) (fun ⟨n1, a4, a6, vy5, zy5, gy5, oy5⟩ => [(1, vy5)]) (fun ⟨n1, a4, a6, vy5, zy5, gy5, oy5⟩ wr => (Qr (Qa3 g) n1 (a4, a6) = some r) ∧ Rd wr zy5 gy5 oy5 1 vy5 (a4.map Xq) ∧ Zm (zy5 = 0 ∨ (gy5 = gp1 ∧ zp1 ≠ 0) ∨ w2.heap.size ≤ gy5) ∧ Bx wr b1 23 (kb a6) ∧ Kz [(1, b1)] w2 wr) (fun ⟨n1, a4, a6, vy5, zy5, gy5, oy5⟩ => n1) ⟨Xb, p1, p0, vp1, zp1, gp1, op1⟩ ?_ ?_ ?_
 · exact Qf
 · exact ⟨hm, B8, ⟨Qj⟩, B9, Kz.refl _ _⟩
 clear hm; rintro ⟨n1, a4, a6, vy5, zy5, gy5, oy5⟩ w3 ⟨hm, d, i, f, K3⟩
 have aa := K3.size
 have t := d.lth
 have T := f.lt
 have hb := Zx hm; clear hm; obtain ⟨n1, rfl, hm⟩ := hb
 generalize j : Qr (Qa3 g) n1 = U at hm
 unfold Qa3 at hm
 try dsimp only at hm
 refine Qe<|qs 3 rfl<|qm rfl<|qv rfl (Zo (l := a4) (c := Xq) Tryz.underlying32 rfl d)<|qv rfl (Va (a := (a4.length : Int)) (b := 0) rfl rfl)<|Qa<|Zu rfl (fun c1 => ?_) (fun c1 => ?_)
 · replace hm := iF c1 hm
   refine Zl<|Xk<|Xk<|Zk<|Xl<|qs 2 rfl<|qv rfl (Qp Ql rfl f rfl) ?_
   have C := (q.kz K3)
   refine qe rfl (Qx Ql rfl rfl rfl C rfl rfl) ?_
   rintro _ w8 ⟨D, M8⟩
   refine Qa<|Qo ?_
   have E := ((X7.kz K3).md M8)
   cases hm
   refine ⟨_, _, rfl, Qt rfl (Xr Ql rfl D rfl), ?_⟩
   exact ⟨rfl, E⟩
 replace hm := iT c1 hm
 refine qu<|Xi<|qs 1 rfl<|qe rfl (Xh (cs := kb k0) Zh rfl) ?_
 rintro _ w4 ⟨b4, rfl, V, u, G4⟩
 refine qd 6 rfl<|qm rfl ?_
 have W := Qfj (o := 0) (p := k0) u rfl
 refine qv rfl (Su (n := 16) (l := 0) (h := 16) Tryz.underlying23 (Xs).siz rfl rfl rfl (by decide) (by decide) (by decide))<|qm rfl ?_
 have y := (d.gr G4)
 refine qe rfl (Xb0 (off := 0) (p := k0) (s := a4) (cs' := kb (Yh (Gs (Xz k0) a4))) Wf rfl rfl u rfl y rfl rfl) ?_
 rintro _ w5 ⟨rfl, F, M5⟩
 obtain ⟨l7, G, hm⟩ := Qc hm
 have H := (y.md M5 (Xd t))
 refine qt rfl (Qos (P := Tryz.prog) (lo := Bm (Xz k0) a4) (hi := (a4.length : Int)) (l := a4) (c := Xq) Tryz.underlying32 (Xs).siz rfl H ⟨_, rfl⟩ rfl G) ?_
 rintro I J K
 refine qm rfl<|Qa<|qg 5 rfl<|qm rfl ?_
 have z := ((f.gr G4).md M5)
 refine qv rfl (Qp Ql rfl z rfl)<|qv rfl (Qp Ql rfl F rfl) ?_
 have L := (((((hbp2_0.gr G1).gr G2).kz K3).gr G4).md M5)
 obtain ⟨x8, M, hm⟩ := Qc hm
 refine qe rfl (Dg Qxq rfl rfl (Qwo M L)) ?_
 rintro _ w6 ⟨rfl, G6⟩
 have N := (z.gr G6)
 refine qe rfl (Qx Ql rfl rfl rfl N rfl rfl) ?_
 rintro _ w7 ⟨O, M7⟩
 refine Qh<|Xy ?_
 have K_27 : Kz [(1, b1)] w2 w7 := ((((K3.gr G4).md M5).gr G6).md M7)
 have Q := ((K.gr G6).md M7 (Xp i (Xd B)))
 subst j
 exact ⟨rfl, ⟨n1, l7, x8, I, zy5, gy5, J⟩, Qf, ⟨hm, Q, ⟨(Xc (A := (fun x => (x = gp1 ∧ zp1 ≠ 0) ∨ w2.heap.size ≤ x)) i Qj)⟩, O, K_27⟩, Nat.lt_succ_self _⟩
theorem Uq {p0 p1 vp1 zp1 gp1 op1 r} (hm : Qa0 p0 p1 = some r) {w : World} (f : Rd w zp1 gp1 op1 1 vp1 (p1.map Xq)) :
    Calls Tryz.prog 51 [kv p0, vp1].toArray w fun e w' => ∃ v, e = .returned v ∧ (v = .tuple [kv r.1, .int .i64 r.2].toArray ∧ Gr w w') := by
 have h := f.lth
 unfold Qa0 at hm
 refine Xe 20 Tryz.func51 rfl rfl rfl<|qs 3 rfl<|qe rfl (Qy (cs := kb p0) rfl rfl) ?_
 rintro _ w1 ⟨b1, rfl, t, g, G1⟩
 have y := g.lt
 refine qe rfl (Xh (cs := kb k0) Zh rfl) ?_
 rintro _ w2 ⟨b2, rfl, u, d, G2⟩
 have z := d.lt
 refine qm rfl<|Qa<|Qe<|qs 3 rfl<|qm rfl ?_
 have B6 := ((f.gr G1).gr G2)
 refine qv rfl (Zo (l := p1) (c := Xq) Tryz.underlying32 rfl B6)<|qv rfl (Va (a := (p1.length : Int)) (b := 16384) rfl rfl)<|Qa<|Xj rfl (fun c1 => ?_) (fun c1 => ?_)
 · replace hm := iT c1 hm
   refine qs 3 rfl<|qv rfl (Vz Vt)<|qe rfl (Qx Ql rfl rfl rfl d rfl rfl) ?_
   rintro _ w3 ⟨i, M3⟩
   refine qm rfl<|qb ?_
   have X8 := ((((Gr.refl w).trans G1).trans G2).md M3)
   cases hm
   refine ⟨_, _, rfl, Zb rfl (Xr Ql rfl i rfl) (Qg rfl), ?_⟩
   exact ⟨rfl, X8⟩
 replace hm := iF c1 hm
 refine qu<|qs 7 rfl ?_
 have B9 := (g.gr G2)
 refine qv rfl (Qp Ql rfl B9 rfl)<|qm rfl<|qv rfl (Zo (l := p1) (c := Xq) Tryz.underlying32 rfl B6)<|qv rfl (Yb Ye rfl)<|qe rfl (eC Ty rfl (Tx p0 (Xf 2#8) (Vy _) (Vx _) (wd (p1.length : Int)) _)) ?_
 rintro _ w4 ⟨rfl, G4⟩
 have A := G4.size
 refine qe rfl (Xh (cs := kb k0) Zh rfl) ?_
 rintro _ w5 ⟨b5, rfl, x, j, G5⟩
 refine qe rfl (Qx Ql rfl rfl rfl j rfl rfl) ?_
 rintro _ w6 ⟨k, M6⟩
 refine qd 6 rfl<|qv rfl (Qp Ql rfl k rfl)<|qm rfl<|qv rfl (Mv rfl rfl) ?_
 have Y1 := Gr.trans G4 G5
 have m := ((B6.gr Y1).md M6 (Xd h))
 have n := ((B9.gr Y1).md M6)
 obtain ⟨x1, o, hm⟩ := Qc hm
 refine qe rfl (eC Qxp rfl (Qws o m n)) ?_
 rintro _ w7 ⟨rfl, G7⟩
 have p := (((d.gr Y1).md M6).gr G7)
 refine qe rfl (Qx Ql rfl rfl rfl p rfl rfl) ?_
 rintro _ w8 ⟨q, M8⟩
 refine qm rfl<|Qa<|Qo ?_
 have s := (((((((Gr.refl w).trans G1).trans G2).trans Y1).md M6).trans G7).md M8)
 cases hm
 refine ⟨_, _, rfl, Zb rfl (Xr Ql rfl q rfl) (Qg rfl), ?_⟩
 exact ⟨rfl, s⟩
theorem Xaj {p0 p1 vp1_2 zp1_2 gp1_2 op1_2 vp1_4 zp1_4 gp1_4 op1_4 vp1_39 zp1_39 gp1_39 op1_39 r} (hm : Qeg p0 p1 = some r) {w : World} (c : Rd w zp1_2 gp1_2 op1_2 18 vp1_2 (p1.Head.Items.map Zd.cs)) (d : Rd w zp1_4 gp1_4 op1_4 2 vp1_4 (p1.Head.Points.map Qu.cs)) (a : Rd w zp1_39 gp1_39 op1_39 1 vp1_39 (p1.Data.map Xq)) :
    Calls Tryz.prog 44 [kv p0, .agg (Ze.cs p1 vp1_2 vp1_4 vp1_39).toArray].toArray w fun e w' => ∃ v, e = .returned v ∧ (v = kv r ∧ Gr w w') := by
 unfold Qeg at hm
 refine Xe 19 Tryz.func44 rfl rfl rfl<|qs 3 rfl<|qe rfl (Qy (cs := kb p0) rfl rfl) ?_
 rintro _ w1 ⟨b1, rfl, aQ, L, G1⟩
 have aT := L.lt
 refine qe rfl (Qy (cs := Ze.cs p1 vp1_2 vp1_4 vp1_39) rfl rfl) ?_
 rintro _ w2 ⟨b2, rfl, aR, M, G2⟩
 have aU := M.lt
 refine qe rfl (Xh (cs := kb k0) Zh rfl) ?_
 rintro _ w3 ⟨b3, rfl, aS, ae, G3⟩
 refine Qa ?_
 have Y1 := Gr.trans (Gr.trans G1 G2) G3
 have af := ((Gr.refl w).trans Y1)
 refine qj (β := W2 × Nat) (rg 5 13) (fun ⟨a2, bq1⟩ => [(5, .pointer (some ⟨bq1, 0, none⟩))]) (fun ⟨a2, bq1⟩ wr => (Qm7 a2 = some r) ∧ Bx wr bq1 23 (kb a2) ∧ w3.heap.size ≤ bq1 ∧ Kz [] w3 wr) ?_ ?_
 · refine dw [([])] [] (.fork [(0,10),(1,10),(2,10),(3,10),(5,10)] (.fork [(4,0)] (.fork [(6,0)] (.leaf [(7,0),(8,10),(9,10),(10,10),(11,0),(12,0),(13,10)]) (.leaf [(11,0),(7,0),(8,10),(9,10),(10,10),(12,0),(13,10)])) (.leaf [(11,0),(6,0),(7,0),(8,10),(9,10),(10,10),(12,0),(13,10)])) (.leaf [(11,0),(4,0),(6,0),(7,0),(8,10),(9,10),(10,10),(12,0),(13,10)])) ?_
   intro w6 G6 aV
   refine Pb ?_
   have Y2 := Gr.trans (Gr.trans G2 G3) G6
   have ag := (L.gr Y2)
   refine dh 0 rfl rfl (fun w hS => Qp Ql rfl (Bx.kp ag hS) rfl)<|dh 0 rfl rfl (fun w hS => Qb Pn rfl) ?_
   have Y3 := Gr.trans G3 G6
   have N := (M.gr Y3)
   refine dh 0 rfl rfl (fun w hS => Qd (v := .int .i64 p1.Epoch) Qv rfl (Bx.kp N hS) rfl)<|dh 0 rfl rfl (fun w hS => Yb Ye rfl)<|dh 0 rfl rfl (fun w hS => Qp Dm rfl (Bx.kp N hS) rfl)<|Hz ?_ ?_
   · refine Pb<|qz [] rfl (eC Ty rfl (Tx p0 (Xf 52#8) (Vy _) (Vx _) (wd p1.Epoch) _)) ⟨fun _ => Qj, trivial⟩ ?_
     rintro _ w7 ⟨rfl, G7⟩
     have aW := G7.size
     refine kG G7<|Hz ?_ ?_
     · refine Pb ?_
       have Y4 := Gr.trans (Gr.trans Y1 G6) G7
       have ah := (c.gr Y4)
       have ai := (d.gr Y4)
       have aj := (a.gr Y4)
       obtain ⟨x3, ak, hm⟩ := Qc hm
       refine qz [] rfl (eC Qe9 rfl (Qef ak ah ai aj)) ⟨fun _ => Qj, trivial⟩ ?_
       rintro O w8 ⟨_, P, Q, rfl, b, R, G8⟩
       have aX := G8.size
       refine kG G8<|Hz ?_ ?_
       · refine Zj ?_
         obtain ⟨x4, al, hm⟩ := Qc hm
         refine qz [] rfl (eC Ek rfl (Uq al (Qn.rd b))) ⟨fun _ => Qj, trivial⟩ ?_
         rintro _ w9 ⟨rfl, G9⟩
         have aY := G9.size
         refine kG G9 ?_
         have h := ((((Kp.refl ([]) w6).gr G7).gr G8).gr G9)
         refine dn 0 rfl rfl h<|dn 0 rfl rfl h<|dn 0 rfl rfl h<|qz [] rfl (Xh (cs := kb k0) Zh rfl) ⟨fun _ => Qj, trivial⟩ ?_
         rintro _ aZ ⟨S, rfl, am, T, m⟩
         refine kG m<|qz [(1, S)] rfl (Qx Ql rfl rfl rfl T rfl rfl) ⟨fun _ => Qj, trivial⟩ ?_
         rintro _ a0 ⟨U, n⟩
         refine kM n ?_
         have an := ((h.gr m).md n)
         refine dn 0 rfl rfl an<|Qh ?_
         exact ⟨rfl, ⟨x4.1, S⟩, Qf, hm, U, (by omega), ((((((Qz.gr G6).gr G7).gr G8).gr G9).gr m).md n)⟩
       refine Zj<|qz [] rfl (Xh (cs := kb k0) Zh rfl) ⟨fun _ => Qj, trivial⟩ ?_
       rintro _ a1 ⟨V, rfl, ao, W, o⟩
       refine kG o ?_
       have ap := (b.gr o)
       obtain ⟨x5, aq, hm⟩ := Qc hm
       refine qz [] rfl (eC Ek rfl (Uq aq (Qn.rd ap))) ⟨fun _ => Qj, trivial⟩ ?_
       rintro _ a3 ⟨rfl, p⟩
       refine kG p ?_
       have Y5 := Gr.trans (Gr.trans (Gr.trans G7 G8) o) p
       have i := ((Kp.refl ([]) w6).gr Y5)
       refine dn 0 rfl rfl i<|dn 0 rfl rfl i<|dn 0 rfl rfl i ?_
       have ar := (W.gr p)
       refine qz [(1, V)] rfl (Qx Ql rfl rfl rfl ar rfl rfl) ⟨fun _ => Qj, trivial⟩ ?_
       rintro _ a4 ⟨X, q⟩
       refine kM q ?_
       have au := (i.md q)
       refine dn 0 rfl rfl au<|Qh ?_
       exact ⟨rfl, ⟨x5.1, V⟩, Qf, hm, X, (by omega), (((Qz.gr G6).gr Y5).md q)⟩
     refine Zj<|qz [] rfl (Xh (cs := kb k0) Zh rfl) ⟨fun _ => Qj, trivial⟩ ?_
     rintro _ a5 ⟨Y, rfl, av, Z, s⟩
     refine kG s ?_
     have Y6 := Gr.trans (Gr.trans (Gr.trans Y1 G6) G7) s
     have aw := (c.gr Y6)
     have ax := (d.gr Y6)
     have ay := (a.gr Y6)
     obtain ⟨x6, az, hm⟩ := Qc hm
     refine qz [] rfl (eC Qe9 rfl (Qef az aw ax ay)) ⟨fun _ => Qj, trivial⟩ ?_
     rintro D a6 ⟨_, E, F, rfl, f, G, t⟩
     refine kG t ?_
     obtain ⟨x7, aA, hm⟩ := Qc hm
     refine qz [] rfl (eC Ek rfl (Uq aA (Qn.rd f))) ⟨fun _ => Qj, trivial⟩ ?_
     rintro _ a7 ⟨rfl, u⟩
     refine kG u ?_
     have Y7 := Gr.trans (Gr.trans (Gr.trans G7 s) t) u
     have j := ((Kp.refl ([]) w6).gr Y7)
     refine dn 0 rfl rfl j<|dn 0 rfl rfl j<|dn 0 rfl rfl j ?_
     have aB := ((Z.gr t).gr u)
     refine qz [(1, Y)] rfl (Qx Ql rfl rfl rfl aB rfl rfl) ⟨fun _ => Qj, trivial⟩ ?_
     rintro _ a8 ⟨aa, x⟩
     refine kM x ?_
     have aC := (j.md x)
     refine dn 0 rfl rfl aC<|Qh ?_
     exact ⟨rfl, ⟨x7.1, Y⟩, Qf, hm, aa, (by omega), (((Qz.gr G6).gr Y7).md x)⟩
   refine Zj<|qz [] rfl (Xh (cs := kb k0) Zh rfl) ⟨fun _ => Qj, trivial⟩ ?_
   rintro _ a9 ⟨ab, rfl, aD, ac, y⟩
   refine kG y<|qz [] rfl (eC Ty rfl (Tx p0 (Xf 52#8) (Vy _) (Vx _) (wd p1.Epoch) _)) ⟨fun _ => Qj, trivial⟩ ?_
   rintro _ ba ⟨rfl, k⟩
   refine kG k ?_
   have Y8 := Gr.trans (Gr.trans (Gr.trans Y1 G6) y) k
   have aE := (c.gr Y8)
   have aF := (d.gr Y8)
   have aG := (a.gr Y8)
   obtain ⟨x8, aH, hm⟩ := Qc hm
   refine qz [] rfl (eC Qe9 rfl (Qef aH aE aF aG)) ⟨fun _ => Qj, trivial⟩ ?_
   rintro H bb ⟨_, I, J, rfl, g, K, z⟩
   refine kG z ?_
   obtain ⟨x9, aI, hm⟩ := Qc hm
   refine qz [] rfl (eC Ek rfl (Uq aI (Qn.rd g))) ⟨fun _ => Qj, trivial⟩ ?_
   rintro _ bd ⟨rfl, A⟩
   refine kG A ?_
   have Y9 := Gr.trans (Gr.trans (Gr.trans y k) z) A
   have l := ((Kp.refl ([]) w6).gr Y9)
   refine dn 0 rfl rfl l<|dn 0 rfl rfl l<|dn 0 rfl rfl l ?_
   have aJ := Gr.trans (Gr.trans k z) A
   have aK := (ac.gr aJ)
   refine qz [(1, ab)] rfl (Qx Ql rfl rfl rfl aK rfl rfl) ⟨fun _ => Qj, trivial⟩ ?_
   rintro _ bf ⟨ad, B⟩
   refine kM B ?_
   have aL := (l.md B)
   refine dn 0 rfl rfl aL<|Qh ?_
   exact ⟨rfl, ⟨x9.1, ab⟩, Qf, hm, ad, (by omega), (((Qz.gr G6).gr Y9).md B)⟩
 clear hm; rintro ⟨a2, bq1⟩ w4 ⟨hm, C, aM, K4⟩
 unfold Qm7 at hm
 refine qs 2 rfl<|qv rfl (Qp Ql rfl C rfl) ?_
 have aN := (ae.kz K4)
 refine qe rfl (Qx Ql rfl rfl rfl aN rfl rfl) ?_
 rintro _ w5 ⟨aO, M5⟩
 refine Qa<|Qo ?_
 have aP := ((af.kz K4).md M5)
 cases hm
 refine ⟨_, _, rfl, Qt rfl (Xr Ql rfl aO rfl), ?_⟩
 exact ⟨rfl, aP⟩
theorem Xak {p0 p1 p2 p3 p4 bp2 vp2_1 zp2_1 gp2_1 op2_1 vp3_2 zp3_2 gp3_2 op3_2 vp3_4 zp3_4 gp3_4 op3_4 vp3_39 zp3_39 gp3_39 op3_39 r} (hm : Qeh p0 p1 p2 p3 p4 = some r) {w : World} (hbp2 : Bx w bp2 57 (Qw.cs p2 vp2_1)) (j : Rd w zp2_1 gp2_1 op2_1 18 vp2_1 (p2.Secret.Labels.map Xn.cs)) (f : Rd w zp3_2 gp3_2 op3_2 18 vp3_2 (p3.Head.Items.map Zd.cs)) (g : Rd w zp3_4 gp3_4 op3_4 2 vp3_4 (p3.Head.Points.map Qu.cs)) (p : Rd w zp3_39 gp3_39 op3_39 1 vp3_39 (p3.Data.map Xq)) (aR : Zm (zp2_1 = 0 ∨ gp2_1 ≠ bp2)) (aS : Zm (zp3_2 = 0 ∨ gp3_2 ≠ bp2)) (aT : Zm (zp3_4 = 0 ∨ gp3_4 ≠ bp2)) (aU : Zm (zp3_39 = 0 ∨ gp3_39 ≠ bp2)) :
    Calls Tryz.prog 62 [.agg (Qs.cs p0).toArray, .agg (Za.cs p1).toArray, .pointer (some ⟨bp2, 0, none⟩), .agg (Ze.cs p3 vp3_2 vp3_4 vp3_39).toArray, .int .i64 p4].toArray w fun e w' => ∃ v, e = .returned v ∧ (v = .int .i64 r.1 ∧ Bx w' bp2 57 (Qw.cs r.2 vp2_1) ∧ Kz [(1, bp2)] w w') := by
 unfold Qeh at hm
 refine Xe 66 Tryz.func62 rfl rfl rfl<|qs 4 rfl<|qe rfl (Qy (cs := Qs.cs p0) rfl rfl) ?_
 rintro _ w1 ⟨b1, rfl, aM, U, G1⟩
 refine qe rfl (Qy (cs := Za.cs p1) rfl rfl) ?_
 rintro _ w2 ⟨b2, rfl, aN, V, G2⟩
 refine qe rfl (Qy (cs := Ze.cs p3 vp3_2 vp3_4 vp3_39) rfl rfl) ?_
 rintro _ w3 ⟨b3, rfl, aO, W, G3⟩
 refine qm rfl<|Qa<|Qe<|dw [([])] [] (.leaf [(0,10),(1,10),(2,10),(3,10),(4,10),(5,10),(6,10),(7,10)]) ?_
 intro w4 G4 aV
 refine Zj<|dm 0 rfl rfl<|dh 0 rfl rfl (fun w hS => Qb Pn rfl) ?_
 have k := (W.gr G4)
 refine dh 0 rfl rfl (fun w hS => Qd (v := .int .i64 p3.Epoch) Qv rfl (Bx.kp k hS) rfl) ?_
 obtain ⟨x1, X, hm⟩ := Qc hm
 refine dh 0 rfl rfl (fun w hS => Hm (a := p3.Epoch) (b := 2) rfl rfl X)<|dh 0 rfl rfl (fun w hS => Lm rfl rfl)<|dh 0 rfl rfl (fun w hS => Qb Sa rfl) ?_
 obtain ⟨y2, n, hm⟩ := Qc hm
 refine dh 0 rfl rfl (fun w hS => Qh5 (l := [p2.Slots.a0, p2.Slots.a1]) (i := x1) Tryz.underlying55 (Yu).siz rfl rfl n rfl)<|dm 0 rfl rfl<|Qa<|Qe<|qs 6 rfl ?_
 have Y1 := Gr.trans G3 G4
 have Y := (V.gr Y1)
 refine qv rfl (Qp Yt rfl Y rfl)<|qm rfl<|qv rfl (Qb Pn rfl)<|qv rfl (Qd (v := .int .i64 p3.Epoch) Qv rfl k rfl) ?_
 obtain ⟨x3, Z, hm⟩ := Qc hm
 refine qe rfl (eC Xa8 rfl (Xan Z)) ?_
 rintro _ w5 ⟨rfl, G5⟩
 refine qv rfl (Jb rfl)<|Qa<|Xj rfl (fun c1 => ?_) (fun c1 => ?_)
 · replace hm := Xx c1 hm
   refine qs 1 rfl<|qm rfl<|qb ?_
   have Y2 := Gr.trans (Gr.trans (Gr.trans G1 G2) Y1) G5
   have aa := (hbp2.gr Y2)
   have ab := ((Kz.refl [(1, bp2)] w).gr Y2)
   cases hm
   refine ⟨_, _, rfl, Qt rfl (Qg rfl), ?_⟩
   exact ⟨rfl, aa, ab⟩
 replace hm := Xw c1 hm
 refine qu<|Qe ?_
 have Y3 := Gr.trans (Gr.trans (Gr.trans G1 G2) Y1) G5
 have H := ((Kz.refl [(1, bp2)] w).gr Y3)
 refine qj (β := Bool) (rg 27 13) (fun a4 => [(39, .bool a4)]) (fun a4 wr => (Qaz p0 p2 p3 x1 a4 = some r) ∧ Kz [] w5 wr) ?_ ?_
 · refine dw [([])] [] (.leaf [(0,10),(1,10),(2,10),(3,10),(4,10),(5,10),(6,10),(7,10),(8,10),(9,10),(10,10),(11,10),(12,10)]) ?_
   intro ac s aP
   refine Zj<|dm 0 rfl rfl<|dh 0 rfl rfl (fun w hS => Lm rfl rfl)<|dh 0 rfl rfl (fun w hS => Qb Cc rfl) ?_
   have I := ((hbp2.gr Y3).gr s)
   refine dh 0 rfl rfl (fun w hS => Vq (q := 0) (u := .bool y2.Full) Sg rfl (Rl (o := 5) (sz := 18) (xs := [p2.Slots.a0, p2.Slots.a1].map Xg.cs) (m := 2) (cap := 2) (Bx.kp I hS) (Wb _ (fun _ => rfl) (fun _ => rfl)) rfl rfl) n (by first | rfl | omega) rfl)<|Nh 0 rfl rfl (Kp.refl ([]) ac) (fun w hS => Qm rfl) (fun c5 => ?_) (fun c5 => ?_)
   · replace hm := Xw c5 hm
     refine dx 0 rfl rfl<|dx 0 rfl rfl<|dx 0 rfl rfl<|dx 0 rfl rfl<|dx 0 rfl rfl<|dx 0 rfl rfl<|dx 0 rfl rfl<|dm 0 rfl rfl<|Qh ?_
     exact ⟨rfl, false, Qf, hm, (Qz.gr s)⟩
   replace hm := Xx c5 hm
   refine dm 0 rfl rfl<|dh 0 rfl rfl (fun w hS => Lm rfl rfl)<|dh 0 rfl rfl (fun w hS => Qb Cd rfl)<|dh 0 rfl rfl (fun w hS => Vq (q := 1) (u := .int .i64 y2.Epoch) Qv rfl (Rl (o := 5) (sz := 18) (xs := [p2.Slots.a0, p2.Slots.a1].map Xg.cs) (m := 2) (cap := 2) (Bx.kp I hS) (Wb _ (fun _ => rfl) (fun _ => rfl)) rfl rfl) n (by first | rfl | omega) rfl)<|dh 0 rfl rfl (fun w hS => Qb Pn rfl) ?_
   have ad := ((k.gr G5).gr s)
   refine dh 0 rfl rfl (fun w hS => Qd (v := .int .i64 p3.Epoch) Qv rfl (Bx.kp ad hS) rfl)<|dh 0 rfl rfl (fun w hS => Kl (a := y2.Epoch) (b := p3.Epoch) rfl rfl)<|dm 0 rfl rfl<|Qh ?_
   exact ⟨rfl, (decide (p3.Epoch ≤ y2.Epoch)), Qf, hm, (Qz.gr s)⟩
 clear hm; rintro a4 w6 ⟨hm, K6⟩
 unfold Qaz at hm
 refine Xj rfl (fun c2 => ?_) (fun c2 => ?_)
 · replace hm := Xx c2 hm
   refine qs 1 rfl<|qm rfl<|qb ?_
   have ae := ((hbp2.gr Y3).kz K6)
   have af := (H.kz K6)
   cases hm
   refine ⟨_, _, rfl, Qt rfl (Qg rfl), ?_⟩
   exact ⟨rfl, ae, af⟩
 replace hm := Xw c2 hm
 refine qu ?_
 have A := (H.kz K6)
 refine qj (β := W2 × Int × Nat) ([12, 13] ++ rg 40 11) (fun ⟨a6, a7, bq5⟩ => [(12, .pointer (some ⟨bq5, 0, none⟩)), (13, .int .i64 a7)]) (fun ⟨a6, a7, bq5⟩ wr => (Qi7 p2 p3 x1 a6 a7 = some r) ∧ Bx wr bq5 23 (kb a6) ∧ w6.heap.size ≤ bq5 ∧ Kz [] w6 wr) ?_ ?_
 · refine dw [([])] [] (.fork [(0,10),(1,10),(2,10),(3,10),(4,10),(5,10),(6,10)] (.leaf [(7,0),(8,10),(9,10),(10,10),(11,0),(12,0),(13,10)]) (.leaf [(11,0),(7,0),(8,10),(9,10),(10,10),(12,0),(13,10)])) ?_
   intro J d aQ
   refine Pb ?_
   have Y4 := Gr.trans (Gr.trans G2 Y1) G5
   have ag := (((U.gr Y4).kz K6).gr d)
   refine dh 0 rfl rfl (fun w hS => Qp Zw rfl (Bx.kp ag hS) rfl)<|dm 0 rfl rfl<|dh 0 rfl rfl (fun w hS => Lm rfl rfl)<|dh 0 rfl rfl (fun w hS => Qb Pp rfl) ?_
   have ah := (((hbp2.gr Y3).kz K6).gr d)
   refine dh 0 rfl rfl (fun w hS => Zy (vs := Qq.cs p2.Secret vp2_1) Jc rfl (Bx.kp ah hS) rfl rfl)<|dh 0 rfl rfl (fun w hS => Qb Yl rfl) ?_
   have ai := (((k.gr G5).kz K6).gr d)
   refine dh 0 rfl rfl (fun w hS => Zy (vs := Zi.cs p3.Head vp3_2 vp3_4) Gn rfl (Bx.kp ai hS) rfl rfl)<|Hz ?_ ?_
   · refine Zj ?_
     have aj := (((j.gr Y3).kz K6).gr d)
     have ak := (((f.gr Y3).kz K6).gr d)
     have al := (((g.gr Y3).kz K6).gr d)
     obtain ⟨x9, am, hm⟩ := Qc hm
     refine qz [] rfl (eC Qqx rfl (Qr3 am aj ak al)) ⟨fun _ => Qj, trivial⟩ ?_
     rintro _ aW ⟨rfl, t⟩
     have aX := t.size
     refine kG t ?_
     have x := ((Kp.refl ([]) J).gr t)
     refine dn 0 rfl rfl x<|dn 0 rfl rfl x<|dn 0 rfl rfl x<|qz [] rfl (Xh (cs := kb k0) Zh rfl) ⟨fun _ => Qj, trivial⟩ ?_
     rintro _ aY ⟨K, rfl, an, L, B⟩
     refine kG B<|qz [(1, K)] rfl (Qx Ql rfl rfl rfl L rfl rfl) ⟨fun _ => Qj, trivial⟩ ?_
     rintro _ aZ ⟨M, C⟩
     refine kM C ?_
     have ao := ((x.gr B).md C)
     refine dn 0 rfl rfl ao<|Qh ?_
     exact ⟨rfl, ⟨x9.1, x9.2, K⟩, Qf, hm, M, (by omega), ((((Qz.gr d).gr t).gr B).md C)⟩
   refine Zj<|qz [] rfl (Xh (cs := kb k0) Zh rfl) ⟨fun _ => Qj, trivial⟩ ?_
   rintro _ a2 ⟨N, rfl, ap, O, D⟩
   refine kG D ?_
   have Y5 := Gr.trans d D
   have aq := (((j.gr Y3).kz K6).gr Y5)
   have ar := (((f.gr Y3).kz K6).gr Y5)
   have au := (((g.gr Y3).kz K6).gr Y5)
   obtain ⟨P, Q, hm⟩ := Qc hm
   refine qz [] rfl (eC Qqx rfl (Qr3 Q aq ar au)) ⟨fun _ => Qj, trivial⟩ ?_
   rintro _ a3 ⟨rfl, y⟩
   refine kG y ?_
   have z := (((Kp.refl ([]) J).gr D).gr y)
   refine dn 0 rfl rfl z<|dn 0 rfl rfl z<|dn 0 rfl rfl z ?_
   have av := (O.gr y)
   refine qz [(1, N)] rfl (Qx Ql rfl rfl rfl av rfl rfl) ⟨fun _ => Qj, trivial⟩ ?_
   rintro _ a5 ⟨R, E⟩
   refine kM E ?_
   have aw := (z.md E)
   refine dn 0 rfl rfl aw<|Qh ?_
   exact ⟨rfl, ⟨P.1, P.2, N⟩, Qf, hm, R, (by omega), (((Qz.gr Y5).gr y).md E)⟩
 clear hm; rintro ⟨a6, a7, bq5⟩ w7 ⟨hm, F, ax, K7⟩
 unfold Qi7 at hm
 refine Qe<|qs 2 rfl<|qm rfl<|qv rfl (Jw (a := a7) (b := 0) rfl rfl)<|Qa<|Xj rfl (fun c3 => ?_) (fun c3 => ?_)
 · replace hm := iT c3 hm
   refine qs 2 rfl<|qm rfl<|qm rfl<|qb ?_
   have ay := (((hbp2.gr Y3).kz K6).kz K7)
   have az := (A.kz K7)
   cases hm
   refine ⟨_, _, rfl, Qt rfl (Qg rfl), ?_⟩
   exact ⟨rfl, ay, az⟩
 replace hm := iF c3 hm
 refine qu<|Qe<|Qe<|dw [([])] [] (.leaf [(0,10),(1,10),(3,10),(4,10),(2,0),(5,10)]) ?_
 intro w8 G8 a8
 refine Zj ?_
 have S := (F.gr G8)
 refine dh 0 rfl rfl (fun w hS => Qp Ql rfl (Bx.kp S hS) rfl) ?_
 have G := ((((k.gr G5).kz K6).kz K7).gr G8)
 refine dh 0 rfl rfl (fun w hS => Qp Dm rfl (Bx.kp G hS) rfl)<|dh 0 rfl rfl (fun w hS => Qb Qie rfl)<|dh 0 rfl rfl (fun w hS => Zy (vs := kb p3.Mac) Ql rfl (Bx.kp G hS) rfl rfl) ?_
 have aA := ((((f.gr Y3).kz K6).kz K7).gr G8)
 have aB := ((((g.gr Y3).kz K6).kz K7).gr G8)
 have aC := ((((p.gr Y3).kz K6).kz K7).gr G8)
 obtain ⟨x8, aD, hm⟩ := Qc hm
 refine qz [] rfl (eC Qzu rfl (Xaj aD aA aB aC)) ⟨fun _ => Qj, trivial⟩ ?_
 rintro _ w9 ⟨rfl, G9⟩
 refine kG G9 ?_
 have aE := ((Kp.refl ([]) w8).gr G9)
 refine qh 0 rfl rfl aE (fun w hS => Gk (cf := kb) (a := x8) (b := p3.Mac) Dw rfl rfl rfl rfl (fun h => Hq h))<|Qa<|Xj rfl (fun c4 => ?_) (fun c4 => ?_)
 · replace hm := iT c4 hm
   refine qs 1 rfl<|qm rfl<|qb ?_
   have Y6 := Gr.trans G8 G9
   have aF := ((((hbp2.gr Y3).kz K6).kz K7).gr Y6)
   have aG := ((A.kz K7).gr Y6)
   cases hm
   refine ⟨_, _, rfl, Qt rfl (Qg rfl), ?_⟩
   exact ⟨rfl, aF, aG⟩
 replace hm := iF c4 hm
 refine qu<|qs 7 rfl<|qm rfl<|qv rfl (Qb Pn rfl) ?_
 have aH := (G.gr G9)
 refine qv rfl (Qd (v := .int .i64 p3.Epoch) Qv rfl aH rfl) ?_
 have aI := (S.gr G9)
 refine qv rfl (Qp Ql rfl aI rfl)<|qv rfl (Zv (cs := Xg.cs (Xg.mk true p3.Epoch a6)) Qdd rfl (Pq rfl rfl rfl (Pq rfl rfl rfl (Pq rfl rfl rfl (by kernel_rfl)))))<|qv rfl (Lm rfl rfl) ?_
 have Y7 := Gr.trans G8 G9
 have aJ := ((((hbp2.gr Y3).kz K6).kz K7).gr Y7)
 refine qe rfl (Qrf (sz := 18) (o := 5) (q := 0) (l := [p2.Slots.a0, p2.Slots.a1]) (c := Xg.cs) (a' := (Xg.mk true p3.Epoch a6)) (vs := Xg.cs (Xg.mk true p3.Epoch a6)) (cs' := Qw.cs (Qw.mk p2.Secret p2.Ahead (Zp.mk (if x1 = 0 then (Xg.mk true p3.Epoch a6) else p2.Slots.a0) (if x1 = 0 then p2.Slots.a1 else (Xg.mk true p3.Epoch a6)))) vp2_1) (Yu).siz rfl rfl rfl rfl rfl aJ (Wb _ (fun _ => rfl) (fun _ => rfl)) rfl rfl n (by first | rfl | omega) rfl rfl (Qur n) rfl) ?_
 rintro _ a9 ⟨T, aK⟩
 refine qd 1 rfl<|qm rfl<|Qa<|Qo ?_
 have aL := (((A.kz K7).gr Y7).md aK)
 cases hm
 refine ⟨_, _, rfl, Qt rfl (Qg rfl), ?_⟩
 exact ⟨rfl, T, aL⟩
theorem Xal {p0 p1 p2 r} (hm : Qei p0 p1 p2 = some r) {w : World} :
    Calls Tryz.prog 71 [.agg (Za.cs p0).toArray, .int .i64 p1, bv p2].toArray w fun e w' => ∃ v, e = .returned v ∧ (v = .tuple [.int .i64 r.1, .bool r.2].toArray ∧ Gr w w') := by
 unfold Qei at hm
 refine Xe 39 Tryz.func71 rfl rfl rfl<|qs 3 rfl<|qe rfl (Qy (cs := Za.cs p0) rfl rfl) ?_
 rintro _ w1 ⟨b1, rfl, j, c, G1⟩
 refine qm rfl<|qm rfl<|qd 8 rfl<|qv rfl (Qp Yt rfl c rfl)<|qm rfl ?_
 obtain ⟨x1, d, hm⟩ := Qc hm
 refine qe rfl (eC Qq4 rfl (Qr5 d)) ?_
 rintro _ w2 ⟨rfl, G2⟩
 refine qm rfl<|qm rfl<|qm rfl<|qm rfl<|qm rfl<|Qa<|Qe<|qs 2 rfl<|qm rfl<|qv rfl (Zc (a := x1.2) (b := 0) rfl rfl)<|Qa<|Xj rfl (fun c1 => ?_) (fun c1 => ?_)
 · replace hm := iT c1 hm
   refine qs 2 rfl<|qm rfl<|qm rfl<|qb ?_
   have X4 := (((Gr.refl w).trans G1).trans G2)
   cases hm
   refine ⟨_, _, rfl, Zb rfl (Qg rfl) (Qg rfl), ?_⟩
   exact ⟨rfl, X4⟩
 replace hm := iF c1 hm
 refine qu<|qs 5 rfl<|qm rfl<|qv rfl (Qb Hv rfl) ?_
 have B5 := (c.gr G2)
 refine qv rfl (Qd (v := .int .i64 p0.Word) Qv rfl B5 rfl) ?_
 obtain ⟨x2, f, hm⟩ := Qc hm
 refine qv rfl (Tq (a := x1.1) (b := p0.Word) rfl rfl f)<|qm rfl<|qd 10 rfl<|qm rfl<|qm rfl<|qv rfl (Qh1 Tg rfl)<|qm rfl ?_
 obtain ⟨x3, g, hm⟩ := Qc hm
 refine qv rfl (Hm (a := x2) (b := 4) rfl rfl g)<|qv rfl (Vn (k := .i64) (a := Xf p2) (b := x3) rfl rfl)<|qv rfl (Zg (k := .i64) (a := Qi ((Xf p2) - x3)) (b := 4) rfl rfl) ?_
 obtain ⟨x4, h, hm⟩ := Qc hm
 refine qv rfl (Hm (a := Qi ((Qi ((Xf p2) - x3)) + 4)) (b := 4) rfl rfl h)<|qv rfl (Zg (k := .i64) (a := x2) (b := x4) rfl rfl)<|qm rfl<|Qa<|Qe<|dw [([])] [] (.leaf [(0,10),(1,10),(2,10),(3,10),(4,10),(5,10),(6,10),(7,10),(8,10)]) ?_
 intro w3 G3 l
 refine Zj<|dm 0 rfl rfl<|dm 0 rfl rfl<|dm 0 rfl rfl<|dh 0 rfl rfl (fun w hS => Qb Hv rfl) ?_
 have B6 := (B5.gr G3)
 refine dh 0 rfl rfl (fun w hS => Qd (v := .int .i64 p0.Word) Qv rfl (Bx.kp B6 hS) rfl) ?_
 obtain ⟨x5, i, hm⟩ := Qc hm
 refine dh 0 rfl rfl (fun w hS => Tq (a := x1.2) (b := p0.Word) rfl rfl i)<|dh 0 rfl rfl (fun w hS => Pf (a := Qi (x2 + x4)) (b := x5) rfl rfl)<|dm 0 rfl rfl<|dm 0 rfl rfl<|Qa<|Qo ?_
 have X7 := ((((Gr.refl w).trans G1).trans G2).trans G3)
 cases hm
 refine ⟨_, _, rfl, Zb rfl (Qg rfl) (Qg rfl), ?_⟩
 exact ⟨rfl, X7⟩
theorem Xai {p0 p1 r} (hm : Qi6 p0 p1 = some r) {w : World} :
    Calls Tryz.prog 49 [kv p0, .int .i64 p1].toArray w fun e w' => ∃ v, e = .returned v ∧ (v = kv r ∧ Gr w w') := by
 unfold Qi6 at hm
 refine Xe 9 Tryz.func49 rfl rfl rfl<|qs 2 rfl<|qe rfl (Qy (cs := kb p0) rfl rfl) ?_
 rintro _ w1 ⟨b1, rfl, d, a, G1⟩
 have g := a.lt
 refine qe rfl (Xh (cs := kb k0) Zh rfl) ?_
 rintro _ w2 ⟨b2, rfl, f, b, G2⟩
 refine qd 5 rfl ?_
 have B5 := (a.gr G2)
 refine qv rfl (Qp Ql rfl B5 rfl)<|qm rfl<|qv rfl (Yb Ye rfl)<|qe rfl (eC Ty rfl (Tx p0 (Xf 51#8) (Vy _) (Vx _) (wd p1) _)) ?_
 rintro _ w3 ⟨rfl, G3⟩
 have B7 := (b.gr G3)
 refine qe rfl (Qx Ql rfl rfl rfl B7 rfl rfl) ?_
 rintro _ w4 ⟨c, M4⟩
 refine Qa<|Qo ?_
 have X9 := (((((Gr.refl w).trans G1).trans G2).trans G3).md M4)
 cases hm
 refine ⟨_, _, rfl, Qt rfl (Xr Ql rfl c rfl), ?_⟩
 exact ⟨rfl, X9⟩
theorem Qwt {p0 r} (hm : Qdm p0 = some r) {w : World} :
    Calls Tryz.prog 190 [.agg (Vc.cs p0).toArray].toArray w fun e w' => ∃ v, e = .returned v ∧ (v = kv r ∧ Gr w w') := by
 unfold Qdm at hm
 refine Xe 29 Tryz.func190 rfl rfl rfl<|qs 2 rfl<|qe rfl (Qy (cs := Vc.cs p0) rfl rfl) ?_
 rintro _ w1 ⟨b1, rfl, F, h, G1⟩
 have J := h.lt
 refine qe rfl (Xh (cs := kb k0) Zh rfl) ?_
 rintro _ w2 ⟨b2, rfl, G, j, G2⟩
 have K := j.lt
 refine qd 1 rfl<|qe rfl (Xh (cs := kb k0) Zh rfl) ?_
 rintro _ w3 ⟨b3, rfl, H, n, G3⟩
 refine Qa<|Qe<|qs 1 rfl<|qm rfl<|Qa<|Xi ?_
 have X7 := ((((Gr.refl w).trans G1).trans G2).trans G3)
 refine Zq (α := Nat × Int × W2) (rg 4 24) (fun ⟨n1, a3, a4⟩ => [(5, .int .i64 a3)]) (fun ⟨n1, a3, a4⟩ wr => (Qr (Qa4 p0) n1 (a3, a4) = some r) ∧ Bx wr b3 23 (kb a4) ∧ Kz [(1, b3)] w3 wr) (fun ⟨n1, a3, a4⟩ => n1) ⟨Xb, 0, k0⟩ ?_ ?_ ?_
 · exact Qf
 · exact ⟨hm, n, Kz.refl _ _⟩
 clear hm; rintro ⟨n1, a3, a4⟩ w4 ⟨hm, d, K4⟩
 have hb := Zx hm; clear hm; obtain ⟨n1, rfl, hm⟩ := hb
 generalize f : Qr (Qa4 p0) n1 = I at hm
 unfold Qa4 at hm
 try dsimp only at hm
 refine qs 1 rfl<|qv rfl (Zc (a := a3) (b := 8) rfl rfl)<|Qa<|Qe<|Zu rfl (fun c1 => ?_) (fun c1 => ?_)
 · replace hm := iF c1 hm
   refine Zl<|Xk<|Xk<|Zk<|Xl<|qs 2 rfl<|qv rfl (Qp Ql rfl d rfl) ?_
   have o := ((j.gr G3).kz K4)
   refine qe rfl (Qx Ql rfl rfl rfl o rfl rfl) ?_
   rintro _ w8 ⟨s, M8⟩
   refine Qa<|Qo ?_
   have t := ((X7.kz K4).md M8)
   cases hm
   refine ⟨_, _, rfl, Qt rfl (Xr Ql rfl s rfl), ?_⟩
   exact ⟨rfl, t⟩
 replace hm := iT c1 hm
 refine qu<|Qe<|Xi<|qs 2 rfl<|qm rfl<|qm rfl<|Qa<|dw [([b3])] [] (.leaf [(0,10),(1,10),(2,10),(3,10),(4,10),(5,10),(6,10),(7,10),(8,10),(9,10),(10,10),(11,10),(12,10),(13,10),(14,10),(15,10),(16,10),(17,10),(18,0),(19,10),(20,0)]) ?_
 intro w5 G5 L
 refine Zj<|dm 0 rfl rfl<|dm 0 rfl rfl<|dh 0 rfl rfl (fun w hS => Zg (k := .i64) (a := 8) (b := a3) rfl rfl)<|dh 0 rfl rfl (fun w hS => Qb Lz rfl) ?_
 have l := ((((h.gr G2).gr G3).kz K4).gr G5)
 refine dh 0 rfl rfl (fun w hS => Qd (v := wv p0.x) Xm rfl (Bx.kp l hS) rfl)<|dm 0 rfl rfl<|dh 0 rfl rfl (fun w hS => Wa (k := .i64) (a := 8) (b := a3) rfl rfl)<|dh 0 rfl rfl (fun w hS => Vn (k := .i64) (a := 56) (b := Qi (8 * a3)) rfl rfl) ?_
 obtain ⟨nn5, hnn5, hm⟩ := Qc hm
 refine dh 0 rfl rfl (fun w hS => Om (c := p0.x) (b := (Qi (56 - (Qi (8 * a3))))) rfl rfl hnn5)<|dh 0 rfl rfl (fun w hS => Qh2 Pk rfl)<|dh 0 rfl rfl (fun w hS => Qb Nz rfl)<|dh 0 rfl rfl (fun w hS => Qd (v := wv p0.y) Xm rfl (Bx.kp l hS) rfl)<|dm 0 rfl rfl<|dh 0 rfl rfl (fun w hS => Wa (k := .i64) (a := 8) (b := a3) rfl rfl)<|dh 0 rfl rfl (fun w hS => Vn (k := .i64) (a := 56) (b := Qi (8 * a3)) rfl rfl) ?_
 obtain ⟨nn6, hnn6, hm⟩ := Qc hm
 refine dh 0 rfl rfl (fun w hS => Om (c := p0.y) (b := (Qi (56 - (Qi (8 * a3))))) rfl rfl hnn6)<|dh 0 rfl rfl (fun w hS => Qh2 Pk rfl) ?_
 obtain ⟨y7, u, hm⟩ := Qc hm
 refine dh 0 rfl rfl (fun w hS => Gj (i := a3) (p := a4) Tryz.underlying23 (Xs).siz rfl rfl u) ?_
 have z := (d.gr G5)
 obtain ⟨x8, A, hm⟩ := Qc hm
 refine qz [(1, b3)] rfl (Qep (off := 0) (p := a4) (q := x8) (i := a3) (cs' := kb x8) (Xs).siz rfl rfl z rfl A rfl rfl rfl) ⟨fun _ => Qj, trivial⟩ ?_
 rintro _ w6 ⟨B, M6⟩
 refine kM M6 ?_
 obtain ⟨y9, C, hm⟩ := Qc hm
 have D := ((Kp.refl ([b3]) w5).md M6)
 refine qh 0 rfl rfl D (fun w hS => Gj (i := Qi (8 + a3)) (p := x8) Tryz.underlying23 (Xs).siz rfl rfl C) ?_
 obtain ⟨g, m, hm⟩ := Qc hm
 refine qz [(1, b3)] rfl (Qep (off := 0) (p := x8) (q := g) (i := Qi (8 + a3)) (cs' := kb g) (Xs).siz rfl rfl B rfl m rfl rfl rfl) ⟨fun _ => Qj, trivial⟩ ?_
 rintro _ w7 ⟨E, M7⟩
 refine kM M7<|Qh<|Xy<|Xl<|qg 2 rfl<|qv rfl (Zg (k := .i64) (a := a3) (b := 1) rfl rfl)<|qm rfl<|Qh ?_
 have K_15 : Kz [(1, b3)] w3 w7 := (((K4.gr G5).md M6).md M7)
 subst f
 exact ⟨rfl, ⟨n1, Qi (a3 + 1), g⟩, Qf, ⟨hm, E, K_15⟩, Nat.lt_succ_self _⟩
theorem Qwr {p0 p1 p2 r} (hm : Qdk p0 p1 p2 = some r) {w : World} :
    Calls Tryz.prog 108 [bv p0, wv p1, wv p2].toArray w fun e w' => ∃ v, e = .returned v ∧ (v = kv r ∧ Gr w w') := by
 unfold Qdk at hm
 refine Xe 15 Tryz.func108 rfl rfl rfl<|qs 1 rfl<|qe rfl (Xh (cs := kb k0) Zh rfl) ?_
 rintro _ w1 ⟨b1, rfl, h, d, G1⟩
 refine qd 9 rfl<|qm rfl<|qv rfl (Qd2 Nw rfl) ?_
 obtain ⟨nn1, hnn1, hm⟩ := Qc hm
 refine qv rfl (Qkf (c := p0.setWidth 64) (b := (un 56#64)) rfl rfl hnn1)<|qm rfl<|qv rfl (Bg (a := (p0.setWidth 64) <<< nn1) (b := p1) rfl rfl)<|qm rfl<|qv rfl (Zv (cs := Vc.cs (Vc.mk (((p0.setWidth 64) <<< nn1) ||| p1) p2)) Qdc rfl rfl) ?_
 obtain ⟨x2, f, hm⟩ := Qc hm
 refine qe rfl (eC Qe3 rfl (Qwt f)) ?_
 rintro _ w2 ⟨rfl, G2⟩
 have B4 := (d.gr G2)
 refine qe rfl (Qx Ql rfl rfl rfl B4 rfl rfl) ?_
 rintro _ w3 ⟨g, M3⟩
 refine Qa<|Qo ?_
 have X6 := ((((Gr.refl w).trans G1).trans G2).md M3)
 cases hm
 refine ⟨_, _, rfl, Qt rfl (Xr Ql rfl g rfl), ?_⟩
 exact ⟨rfl, X6⟩
theorem Qwq {p0 p1 p2 vp2 zp2 gp2 op2 r} (hm : Qdj p0 p1 p2 = some r) {w : World} (D : Rd w zp2 gp2 op2 1 vp2 (p2.map Xq)) :
    Calls Tryz.prog 50 [kv p0, wv p1, vp2].toArray w fun e w' => ∃ v, e = .returned v ∧ (∃ ur0_s zr0_s gr0_s, v = .tuple [ur0_s, .int .i64 r.2].toArray ∧ Qn w' zr0_s gr0_s 5 1 ur0_s (r.1.map Xq) ∧ Zm (zr0_s = 0 ∨ w.heap.size ≤ gr0_s) ∧ Gr w w') := by
 have E := D.lth
 unfold Qdj at hm
 refine Xe 46 Tryz.func50 rfl rfl rfl<|qs 3 rfl<|qe rfl (Qy (cs := kb p0) rfl rfl) ?_
 rintro _ w1 ⟨b1, rfl, ae, F, G1⟩
 have ai := F.lt
 refine qm rfl<|qm rfl<|Qa<|Qe<|qs 3 rfl<|qm rfl ?_
 have B4 := (D.gr G1)
 refine qv rfl (Zo (l := p2) (c := Xq) Tryz.underlying32 rfl B4)<|qv rfl (Va (a := (p2.length : Int)) (b := 16384) rfl rfl)<|Qa<|Xj rfl (fun c1 => ?_) (fun c1 => ?_)
 · replace hm := iT c1 hm
   refine qs 2 rfl<|qm rfl<|qm rfl<|qb ?_
   have X5 := ((Gr.refl w).trans G1)
   cases hm
   refine ⟨_, _, rfl, Zb rfl (Qg rfl) (Qg rfl), ?_⟩
   exact ⟨(.slice none 0 0), 0, 0, rfl, (Ji _ 0 5 1), ⟨.inl rfl⟩, X5⟩
 replace hm := iF c1 hm
 refine qu<|qs 4 rfl<|qm rfl<|qv rfl (Zo (l := p2) (c := Xq) Tryz.underlying32 rfl B4) ?_
 obtain ⟨l1, U, hm⟩ := Qc hm
 refine qe rfl (Qrd (c := Xq) (a := 0#8) Wf Qhc rfl ⟨rfl, rfl⟩ rfl U (by decide)) ?_
 rintro V w2 ⟨f, af, G, G2⟩
 have z6 := G2.size
 have H := G.lth
 refine qm rfl<|qd 1 rfl<|qe rfl (Xh (cs := kb k0) Zh rfl) ?_
 rintro _ w3 ⟨b3, rfl, ag, I, G3⟩
 have aj := I.lt
 refine Qa<|Qe<|qs 3 rfl<|qm rfl ?_
 have J := ((B4.gr G2).gr G3)
 refine qv rfl (Zo (l := p2) (c := Xq) Tryz.underlying32 rfl J)<|qm rfl<|Qa<|Xi ?_
 have W := ((((Gr.refl w).trans G1).trans G2).trans G3)
 have X := (G.gr G3)
 refine Zq (α := Nat × List (BitVec 8) × Int × W2 × Value × Nat × Nat) ([8, 10, 11] ++ rg 20 25) (fun ⟨n1, a6, a8, a9, vy7, zy7, gy7⟩ => [(8, vy7), (20, .int .i64 a8)]) (fun ⟨n1, a6, a8, a9, vy7, zy7, gy7⟩ wr => (Qr (Qa2 p0 p1 p2) n1 (a6, a8, a9) = some r) ∧ Qn wr zy7 gy7 5 1 vy7 (a6.map Xq) ∧ Zm (zy7 = 0 ∨ (gy7 = f ∧ 1 ≠ 0) ∨ w3.heap.size ≤ gy7) ∧ Bx wr b3 23 (kb a9) ∧ Kz [(1, b3), (1, f)] w3 wr) (fun ⟨n1, a6, a8, a9, vy7, zy7, gy7⟩ => n1) ⟨Xb, l1, 0, k0, V, 1, f⟩ ?_ ?_ ?_
 · exact Qf
 · exact ⟨hm, X, ⟨Qj⟩, I, Kz.refl _ _⟩
 clear hm; rintro ⟨n1, a6, a8, a9, vy7, zy7, gy7⟩ w4 ⟨hm, j, d, m, K4⟩
 have hb := Zx hm; clear hm; obtain ⟨n1, rfl, hm⟩ := hb
 generalize B : Qr (Qa2 p0 p1 p2) n1 = K at hm
 unfold Qa2 at hm
 try dsimp only at hm
 refine qs 1 rfl<|qv rfl (Zc (a := a8) (b := (p2.length : Int)) rfl rfl)<|Qa<|Qe<|Zu rfl (fun c2 => ?_) (fun c2 => ?_)
 · replace hm := iF c2 hm
   refine Zl<|Xk<|Xk<|Zk<|Xl<|qs 3 rfl<|qm rfl<|qm rfl<|qm rfl<|Qa<|Qo ?_
   have Y := (W.kz K4 (Qk ((.inr Qj) : 1 = 0 ∨ w.heap.size ≤ f)))
   cases hm
   refine ⟨_, _, rfl, Zb rfl (Qg rfl) (Qg rfl), ?_⟩
   exact ⟨vy7, zy7, gy7, rfl, j, ⟨(Xc (A := (fun x => w.heap.size ≤ x)) d (.inr Qj))⟩, Y⟩
 replace hm := iT c2 hm
 refine qu<|Qe<|Xi<|qs 5 rfl<|qm rfl ?_
 obtain ⟨h, y, hm⟩ := Qc hm
 have L := (J.kz K4 (Ke ((Jl (.inr (Qk E.o))) : zp2 = 0 ∨ 1 = 0 ∨ gp2 ≠ f) (Xd (b := b3) E)))
 refine qv rfl (Jm (i := a8) Tryz.underlying32 (Xs).siz rfl L rfl y)<|qv rfl (Vq (q := 0) (u := bv h) Xs rfl L y (by first | rfl | omega) rfl)<|qm rfl<|qm rfl<|Qa ?_
 refine qj (β := W2) (rg 25 10) (fun g => []) (fun g wr => (Qa1 a6 a8 K h g = some r) ∧ Bx wr b3 23 (kb g) ∧ Kz [(1, b3)] w4 wr) ?_ ?_
 · refine qs 3 rfl<|qm rfl ?_
   obtain ⟨Z, M, hm⟩ := Qc hm
   refine qv rfl (Hm (a := a8) (b := 16) rfl rfl M)<|qv rfl (Jr (a := Z) (b := 0) rfl rfl)<|Qa<|Zu rfl (fun c3 => ?_) (fun c3 => ?_)
   · replace hm := iF c3 hm
     refine Vi ?_
     exact ⟨rfl, a9, Qf, hm, m, (Kz.refl _ _)⟩
   replace hm := iT c3 hm
   refine dw [([b3])] [] (.leaf [(0,10),(1,10),(2,10),(3,10),(4,10),(5,0),(6,0),(7,0)]) ?_
   intro w7 G7 ak
   refine Zj ?_
   have aa := ((((F.gr G2).gr G3).kz K4 (Qk ((.inr Qj) : 1 = 0 ∨ f ≠ b1))).gr G7)
   refine dh 0 rfl rfl (fun w hS => Qp Ql rfl (Bx.kp aa hS) rfl)<|dm 0 rfl rfl ?_
   obtain ⟨al, N, hm⟩ := Qc hm
   refine dh 0 rfl rfl (fun w hS => Tq (a := a8) (b := 16) rfl rfl N)<|dh 0 rfl rfl (fun w hS => Yb Ye rfl)<|dm 0 rfl rfl ?_
   obtain ⟨O, P, hm⟩ := Qc hm
   refine qz [] rfl (eC Qlf rfl (Qwr P)) ⟨fun _ => Qj, trivial⟩ ?_
   rintro _ w8 ⟨rfl, G8⟩
   refine kG G8<|qz [] rfl (eC Qi2 rfl (Qm6 p0 O _)) ⟨fun _ => Qj, trivial⟩ ?_
   rintro _ w9 ⟨rfl, G9⟩
   refine kG G9 ?_
   have ab := (((m.gr G7).gr G8).gr G9)
   refine qz [(1, b3)] rfl (Qx Ql rfl rfl rfl ab rfl rfl) ⟨fun _ => Qj, trivial⟩ ?_
   rintro _ am ⟨Q, R⟩
   refine kM R<|Qh ?_
   exact ⟨rfl, (Wn p0 O), Qf, hm, Q, ((((Kz.gr (Kz.refl _ _) G7).gr G8).gr G9).md R)⟩
 clear hm; rintro g w5 ⟨hm, n, K5⟩
 unfold Qa1 at hm
 refine qg 10 rfl<|qm rfl<|qm rfl<|qm rfl<|qm rfl ?_
 obtain ⟨S, T, hm⟩ := Qc hm
 refine qv rfl (Hm (a := a8) (b := 16) rfl rfl T) ?_
 obtain ⟨t, z, hm⟩ := Qc hm
 refine qv rfl (Gj (i := S) (p := g) Tryz.underlying23 (Xs).siz rfl rfl z)<|qv rfl (Mu (off := 0) (p := g) (i := S) Xs rfl n rfl z (by omega))<|qv rfl (Qot (a := h) (b := t) rfl rfl) ?_
 obtain ⟨an, s, hm⟩ := Qc hm
 have C := (j.kz K5 (Qk (Xp (b := b3) d (Xd H))))
 refine qv rfl (Jm (i := a8) Tryz.underlying32 (Xs).siz rfl (Qn.rd C) rfl s) ?_
 have ah := Qn.z1 C s
 refine qe rfl (Qia (i := a8) (q := 0) (a' := h ^^^ t) (vs := [bv (h ^^^ t)]) (c := Xq) (Xs).siz rfl rfl rfl rfl rfl C s (by first | rfl | omega) rfl rfl ⟨rfl, rfl⟩) ?_
 rintro _ w6 ⟨ac, M6⟩
 refine Qh<|Xy<|Xl<|qg 2 rfl<|qv rfl (Zg (k := .i64) (a := a8) (b := 1) rfl rfl)<|qm rfl<|Qh ?_
 have K_23 : Kz [(1, b3), (1, f)] w3 w6 := ((K4.kz K5).md M6 (Qk (Xc (A := (fun x => (x = f ∧ 1 ≠ 0) ∨ w3.heap.size ≤ x)) d Qj)))
 have ad := (n.md M6 (Qk (Xp (b := b3) d (Xd H))))
 subst B
 exact ⟨rfl, ⟨n1, a6.set a8.toNat (h ^^^ t), Qi (a8 + 1), g, vy7, zy7, gy7⟩, Qf, ⟨hm, ac, ⟨(Xc (A := (fun x => (x = f ∧ 1 ≠ 0) ∨ w3.heap.size ≤ x)) d Qj)⟩, ad, K_23⟩, Nat.lt_succ_self _⟩
theorem Xam {p0 p1 p2 p3 vp1_1 zp1_1 gp1_1 op1_1 vp2_2 zp2_2 gp2_2 op2_2 vp2_4 zp2_4 gp2_4 op2_4 vp2_39 zp2_39 gp2_39 op2_39 r} (hm : Qej p0 p1 p2 p3 = some r) {w : World} (aL : Rd w zp1_1 gp1_1 op1_1 18 vp1_1 (p1.Secret.Labels.map Xn.cs)) (j : Rd w zp2_2 gp2_2 op2_2 18 vp2_2 (p2.Head.Items.map Zd.cs)) (k : Rd w zp2_4 gp2_4 op2_4 2 vp2_4 (p2.Head.Points.map Qu.cs)) (c : Rd w zp2_39 gp2_39 op2_39 1 vp2_39 (p2.Data.map Xq)) :
    Calls Tryz.prog 63 [.agg (Za.cs p0).toArray, .agg (Qw.cs p1 vp1_1).toArray, .agg (Ze.cs p2 vp2_2 vp2_4 vp2_39).toArray, .int .i64 p3].toArray w fun e w' => ∃ v, e = .returned v ∧ (∃ ur0_s zr0_s gr0_s, v = .tuple [ur0_s, .int .i64 r.2].toArray ∧ Qn w' zr0_s gr0_s 5 1 ur0_s (r.1.map Xq) ∧ Zm (zr0_s = 0 ∨ w.heap.size ≤ gr0_s) ∧ Gr w w') := by
 have E := j.lth
 have F := k.lth
 have p := c.lth
 unfold Qej at hm
 refine Xe 74 Tryz.func63 rfl rfl rfl<|qs 5 rfl<|qe rfl (Qy (cs := Za.cs p0) rfl rfl) ?_
 rintro _ w1 ⟨b1, rfl, bp, ah, G1⟩
 have bD := ah.lt
 refine qe rfl (Qy (cs := Qw.cs p1 vp1_1) rfl rfl) ?_
 rintro _ w2 ⟨b2, rfl, bq, ai, G2⟩
 have bE := ai.lt
 refine qe rfl (Qy (cs := Ze.cs p2 vp2_2 vp2_4 vp2_39) rfl rfl) ?_
 rintro _ w3 ⟨b3, rfl, br, G, G3⟩
 have bs := G.lt
 refine qm rfl<|qm rfl<|qd 10 rfl ?_
 have Y1 := Gr.trans G2 G3
 have aj := (ah.gr Y1)
 refine qv rfl (Qp Yt rfl aj rfl)<|qm rfl<|qv rfl (Qb Ca rfl)<|qv rfl (Qd (v := bv p2.Low) Xs rfl G rfl) ?_
 obtain ⟨x1, aM, hm⟩ := Qc hm
 refine qe rfl (eC Xa7 rfl (Xal aM)) ?_
 rintro _ w4 ⟨rfl, G4⟩
 have bF := G4.size
 refine qm rfl<|qm rfl<|qm rfl<|qm rfl<|qm rfl<|Qa<|Qe<|qs 2 rfl<|qm rfl<|qv rfl (Jb rfl)<|Qa<|Xj rfl (fun c1 => ?_) (fun c1 => ?_)
 · replace hm := Xx c1 hm
   refine qs 2 rfl<|qm rfl<|qm rfl<|qb ?_
   have Y2 := Gr.trans (Gr.trans G1 Y1) G4
   have aN := ((Gr.refl w).trans Y2)
   cases hm
   refine ⟨_, _, rfl, Zb rfl (Qg rfl) (Qg rfl), ?_⟩
   exact ⟨(.slice none 0 0), 0, 0, rfl, (Ji _ 0 5 1), ⟨.inl rfl⟩, aN⟩
 replace hm := Xw c1 hm
 refine qu<|qs 8 rfl<|qm rfl<|qv rfl (Qb Dx rfl) ?_
 have ak := (aj.gr G4)
 refine qv rfl (Qd (v := .int .i64 p0.Epoch) Qv rfl ak rfl)<|qv rfl (Qb Hv rfl)<|qv rfl (Qd (v := .int .i64 p0.Word) Qv rfl ak rfl) ?_
 obtain ⟨x2, aO, hm⟩ := Qc hm
 refine qv rfl (Tq (a := p0.Epoch) (b := p0.Word) rfl rfl aO) ?_
 obtain ⟨x3, aP, hm⟩ := Qc hm
 refine qv rfl (Tq (a := x1.1) (b := x2) rfl rfl aP)<|qm rfl<|qd 7 rfl<|qm rfl ?_
 obtain ⟨x4, aQ, hm⟩ := Qc hm
 refine qv rfl (Hm (a := x3) (b := 2) rfl rfl aQ)<|qv rfl (Qb Sa rfl) ?_
 obtain ⟨y5, al, hm⟩ := Qc hm
 refine qv rfl (Qh5 (l := [p1.Slots.a0, p1.Slots.a1]) (i := x4) Tryz.underlying55 (Yu).siz rfl rfl al rfl) ?_
 have Y3 := Gr.trans G3 G4
 have aR := (ai.gr Y3)
 refine qv rfl (Hc Yu rfl (Rl (o := 5) (sz := 18) (xs := [p1.Slots.a0, p1.Slots.a1].map Xg.cs) (m := 2) (cap := 2) aR (Wb _ (fun _ => rfl) (fun _ => rfl)) rfl rfl) al (by first | rfl | omega))<|qe rfl (Xh (cs := Xg.cs (Xg.mk false 0 k0)) Qhd rfl) ?_
 rintro _ w5 ⟨b5, rfl, bu, am, G5⟩
 have bx := am.lt
 refine qe rfl (Qx Yu rfl rfl rfl am rfl rfl) ?_
 rintro _ w6 ⟨Q, M6⟩
 have bG := M6.size
 refine Qa<|Qe ?_
 have Y4 := Gr.trans (Gr.trans (Gr.trans G1 Y1) G4) G5
 have an := (((Gr.refl w).trans Y4).md M6)
 refine qj (β := Bool) (rg 39 9) (fun a6 => [(47, .bool a6)]) (fun a6 wr => (Qb0 p2 x1 y5 a6 = some r) ∧ Kz [] w6 wr) ?_ ?_
 · refine qg 9 rfl<|qv rfl (Qb Cc rfl)<|qv rfl (Qd (v := .bool y5.Full) Sg rfl Q rfl)<|qv rfl (Jb rfl)<|qp rfl (Qm rfl) (fun c5 => ?_) (fun c5 => ?_)
   · replace hm := Xx c5 hm
     refine qk rfl<|qk rfl<|qk rfl<|qk rfl<|qm rfl<|Qh ?_
     exact ⟨rfl, true, Qf, hm, Qz⟩
   replace hm := Xw c5 hm
   refine qv rfl (Qb Cd rfl)<|qv rfl (Qd (v := .int .i64 y5.Epoch) Qv rfl Q rfl)<|qm rfl<|qv rfl (Jw (a := y5.Epoch) (b := x3) rfl rfl)<|qm rfl<|Qh ?_
   exact ⟨rfl, (decide (y5.Epoch ≠ x3)), Qf, hm, Qz⟩
 clear hm; rintro a6 w7 ⟨hm, K7⟩
 have bH := K7.size
 unfold Qb0 at hm
 refine Xj rfl (fun c2 => ?_) (fun c2 => ?_)
 · replace hm := Xx c2 hm
   refine qs 2 rfl<|qm rfl<|qm rfl<|qb ?_
   have aS := (an.kz K7)
   cases hm
   refine ⟨_, _, rfl, Zb rfl (Qg rfl) (Qg rfl), ?_⟩
   exact ⟨(.slice none 0 0), 0, 0, rfl, (Ji _ 0 5 1), ⟨.inl rfl⟩, aS⟩
 replace hm := Xw c2 hm
 refine qu<|qs 6 rfl<|qv rfl (Qb Qrj rfl) ?_
 have aT := (Q.kz K7)
 refine qv rfl (Zy (vs := kb y5.Key) Ql rfl aT rfl rfl)<|qm rfl ?_
 obtain ⟨x7, aU, hm⟩ := Qc hm
 refine qe rfl (eC Qzw rfl (Xai aU)) ?_
 rintro _ w8 ⟨rfl, G8⟩
 have bI := G8.size
 refine qe rfl (Xh (cs := kb k0) Zh rfl) ?_
 rintro _ w9 ⟨b9, rfl, bz, ao, G9⟩
 have bA := ao.lt
 refine qe rfl (Qx Ql rfl rfl rfl ao rfl rfl) ?_
 rintro _ ap ⟨P, d⟩
 have bJ := d.size
 refine Qa ?_
 have Y5 := Gr.trans G8 G9
 have R := (((an.kz K7).trans Y5).md d)
 refine qj (β := W2 × Int × Nat) ([15, 16] ++ rg 52 7) (fun ⟨a9, D, bq8⟩ => [(15, .pointer (some ⟨bq8, 0, none⟩)), (16, .int .i64 D)]) (fun ⟨a9, D, bq8⟩ wr => (Qi8 p2 x7 a9 D = some r) ∧ Bx wr bq8 23 (kb a9) ∧ ap.heap.size ≤ bq8 ∧ Kz [] ap wr) ?_ ?_
 · refine dw [([])] [] (.fork [(0,10),(1,10)] (.fork [(2,0)] (.leaf [(3,0),(4,10),(5,10),(6,10),(7,0),(8,0),(9,10)]) (.leaf [(7,0),(3,0),(4,10),(5,10),(6,10),(8,0),(9,10)])) (.leaf [(7,0),(2,0),(3,0),(4,10),(5,10),(6,10),(8,0),(9,10)])) ?_
   intro S g bB
   refine Pb ?_
   have aV := (P.gr g)
   refine dh 0 rfl rfl (fun w hS => Qp Ql rfl (Bx.kp aV hS) rfl) ?_
   have Y6 := Gr.trans G4 G5
   have aW := ((((((G.gr Y6).md M6).kz K7).gr Y5).md d).gr g)
   refine dh 0 rfl rfl (fun w hS => Qp Dm rfl (Bx.kp aW hS) rfl)<|Hz ?_ ?_
   · refine Pb ?_
     have aX := ((((((j.gr Y4).md M6 (Xd E)).kz K7).gr Y5).md d (Xd E)).gr g)
     have aY := ((((((k.gr Y4).md M6 (Xd F)).kz K7).gr Y5).md d (Xd F)).gr g)
     have aZ := ((((((c.gr Y4).md M6 (Xd p)).kz K7).gr Y5).md d (Xd p)).gr g)
     obtain ⟨bK, aq, hm⟩ := Qc hm
     refine qz [] rfl (eC Qe9 rfl (Qef aq aX aY aZ)) ⟨fun _ => Qj, trivial⟩ ?_
     rintro Z bL ⟨_, aa, ab, rfl, f, ac, q⟩
     have bM := q.size
     refine kG q<|Hz ?_ ?_
     · refine Zj ?_
       obtain ⟨ar, au, hm⟩ := Qc hm
       refine qz [] rfl (eC Ek rfl (Uq au (Qn.rd f))) ⟨fun _ => Qj, trivial⟩ ?_
       rintro _ bN ⟨rfl, H⟩
       have bO := H.size
       refine kG H ?_
       have I := (((Kp.refl ([]) S).gr q).gr H)
       refine dn 0 rfl rfl I<|dn 0 rfl rfl I<|dn 0 rfl rfl I<|qz [] rfl (Xh (cs := kb k0) Zh rfl) ⟨fun _ => Qj, trivial⟩ ?_
       rintro _ bP ⟨av, rfl, a2, aw, T⟩
       refine kG T<|qz [(1, av)] rfl (Qx Ql rfl rfl rfl aw rfl rfl) ⟨fun _ => Qj, trivial⟩ ?_
       rintro _ bQ ⟨ax, U⟩
       refine kM U ?_
       have a3 := ((I.gr T).md U)
       refine dn 0 rfl rfl a3<|Qh ?_
       exact ⟨rfl, ⟨ar.1, ar.2, av⟩, Qf, hm, ax, (by omega), (((((Qz.gr g).gr q).gr H).gr T).md U)⟩
     refine Zj<|qz [] rfl (Xh (cs := kb k0) Zh rfl) ⟨fun _ => Qj, trivial⟩ ?_
     rintro _ bR ⟨ay, rfl, a4, az, J⟩
     refine kG J ?_
     have a5 := (f.gr J)
     obtain ⟨aA, aB, hm⟩ := Qc hm
     refine qz [] rfl (eC Ek rfl (Uq aB (Qn.rd a5))) ⟨fun _ => Qj, trivial⟩ ?_
     rintro _ bS ⟨rfl, K⟩
     refine kG K ?_
     have L := ((((Kp.refl ([]) S).gr q).gr J).gr K)
     refine dn 0 rfl rfl L<|dn 0 rfl rfl L<|dn 0 rfl rfl L ?_
     have a7 := (az.gr K)
     refine qz [(1, ay)] rfl (Qx Ql rfl rfl rfl a7 rfl rfl) ⟨fun _ => Qj, trivial⟩ ?_
     rintro _ bT ⟨aC, V⟩
     refine kM V ?_
     have a8 := (L.md V)
     refine dn 0 rfl rfl a8<|Qh ?_
     exact ⟨rfl, ⟨aA.1, aA.2, ay⟩, Qf, hm, aC, (by omega), (((((Qz.gr g).gr q).gr J).gr K).md V)⟩
   refine Zj<|qz [] rfl (Xh (cs := kb k0) Zh rfl) ⟨fun _ => Qj, trivial⟩ ?_
   rintro _ bU ⟨aD, rfl, ba, aE, W⟩
   refine kG W ?_
   have Y7 := Gr.trans g W
   have bb := ((((((j.gr Y4).md M6 (Xd E)).kz K7).gr Y5).md d (Xd E)).gr Y7)
   have bd := ((((((k.gr Y4).md M6 (Xd F)).kz K7).gr Y5).md d (Xd F)).gr Y7)
   have bf := ((((((c.gr Y4).md M6 (Xd p)).kz K7).gr Y5).md d (Xd p)).gr Y7)
   obtain ⟨bV, aF, hm⟩ := Qc hm
   refine qz [] rfl (eC Qe9 rfl (Qef aF bb bd bf)) ⟨fun _ => Qj, trivial⟩ ?_
   rintro ad bW ⟨_, ae, af, rfl, s, ag, M⟩
   refine kG M ?_
   obtain ⟨aG, aH, hm⟩ := Qc hm
   refine qz [] rfl (eC Ek rfl (Uq aH (Qn.rd s))) ⟨fun _ => Qj, trivial⟩ ?_
   rintro _ bX ⟨rfl, N⟩
   refine kG N ?_
   have O := ((((Kp.refl ([]) S).gr W).gr M).gr N)
   refine dn 0 rfl rfl O<|dn 0 rfl rfl O<|dn 0 rfl rfl O ?_
   have bg := ((aE.gr M).gr N)
   refine qz [(1, aD)] rfl (Qx Ql rfl rfl rfl bg rfl rfl) ⟨fun _ => Qj, trivial⟩ ?_
   rintro _ bY ⟨aI, X⟩
   refine kM X ?_
   have bh := (O.md X)
   refine dn 0 rfl rfl bh<|Qh ?_
   exact ⟨rfl, ⟨aG.1, aG.2, aD⟩, Qf, hm, aI, (by omega), ((((Qz.gr Y7).gr M).gr N).md X)⟩
 clear hm; rintro ⟨a9, D, bq8⟩ bZ ⟨hm, n, aK, t⟩
 have bC := n.lt
 unfold Qi8 at hm
 refine Qe<|qs 2 rfl<|qm rfl<|qv rfl (Jw (a := D) (b := 0) rfl rfl)<|Qa<|Xj rfl (fun c3 => ?_) (fun c3 => ?_)
 · replace hm := iT c3 hm
   refine qs 3 rfl<|qm rfl<|qm rfl<|qm rfl<|qb ?_
   have bi := (R.kz t)
   cases hm
   refine ⟨_, _, rfl, Zb rfl (Qg rfl) (Qg rfl), ?_⟩
   exact ⟨(.slice none 0 0), 0, 0, rfl, (Ji _ 0 5 1), ⟨.inl rfl⟩, bi⟩
 replace hm := iF c3 hm
 refine qu<|Qe<|qs 4 rfl<|qv rfl (Qp Ql rfl n rfl)<|qv rfl (Qb Qie rfl) ?_
 have Y8 := Gr.trans G4 G5
 have Y := ((((((G.gr Y8).md M6).kz K7).gr Y5).md d).kz t)
 refine qv rfl (Zy (vs := kb p2.Mac) Ql rfl Y rfl rfl)<|qv rfl (Gk (cf := kb) (a := a9) (b := p2.Mac) Dw rfl rfl rfl rfl (fun h => Hq h))<|Qa<|Xj rfl (fun c4 => ?_) (fun c4 => ?_)
 · replace hm := iT c4 hm
   refine qs 2 rfl<|qm rfl<|qm rfl<|qb ?_
   have bj := (R.kz t)
   cases hm
   refine ⟨_, _, rfl, Zb rfl (Qg rfl) (Qg rfl), ?_⟩
   exact ⟨(.slice none 0 0), 0, 0, rfl, (Ji _ 0 5 1), ⟨.inl rfl⟩, bj⟩
 replace hm := iF c4 hm
 refine qu<|qs 10 rfl ?_
 have bk := (P.kz t)
 refine qv rfl (Qp Ql rfl bk rfl)<|qv rfl (Qb Qb7 rfl)<|qv rfl (Qd (v := wv p2.Number) Xm rfl Y rfl)<|qv rfl (Qb Gc rfl)<|qv rfl (Qd (v := vp2_39) Hj rfl Y rfl) ?_
 have bl := ((((((c.gr Y4).md M6 (Xd p)).kz K7).gr Y5).md d (Xd p)).kz t)
 obtain ⟨b0, aJ, hm⟩ := Qc hm
 refine qe rfl (eC Qzx rfl (Qwq aJ bl)) ?_
 rintro _ b4 ⟨u, y, z, rfl, B, C, bm⟩
 refine qm rfl<|qm rfl<|qm rfl<|qm rfl<|Qa<|Qo ?_
 have bo := ((R.kz t).trans bm)
 cases hm
 refine ⟨_, _, rfl, Zb rfl (Qg rfl) (Qg rfl), ?_⟩
 exact ⟨u, y, z, rfl, B, ⟨(Jf (A := (fun x => w.heap.size ≤ x)) C)⟩, bo⟩
theorem Xah {p0 p1 p2 p3 p4 vp2_1 zp2_1 gp2_1 op2_1 vp3_2 zp3_2 gp3_2 op3_2 vp3_4 zp3_4 gp3_4 op3_4 vp3_39 zp3_39 gp3_39 op3_39 r} (hm : Qee p0 p1 p2 p3 p4 = some r) {w : World} (N : Rd w zp2_1 gp2_1 op2_1 18 vp2_1 (p2.Secret.Labels.map Xn.cs)) (m : Rd w zp3_2 gp3_2 op3_2 18 vp3_2 (p3.Head.Items.map Zd.cs)) (n : Rd w zp3_4 gp3_4 op3_4 2 vp3_4 (p3.Head.Points.map Qu.cs)) (i : Rd w zp3_39 gp3_39 op3_39 1 vp3_39 (p3.Data.map Xq)) :
    Calls Tryz.prog 17 [.agg (Qs.cs p0).toArray, .agg (Za.cs p1).toArray, .agg (Qw.cs p2 vp2_1).toArray, .agg (Ze.cs p3 vp3_2 vp3_4 vp3_39).toArray, .int .i64 p4].toArray w fun e w' => ∃ v, e = .returned v ∧ (∃ ur0_1 zr0_1 gr0_1 ur1_s zr1_s gr1_s, v = .tuple [.agg (Qw.cs r.1 ur0_1).toArray, ur1_s, .int .i64 r.2.2].toArray ∧ Qn w' zr0_1 gr0_1 72 18 ur0_1 (r.1.Secret.Labels.map Xn.cs) ∧ Zm (zr0_1 = 0 ∨ w.heap.size ≤ gr0_1) ∧ Qn w' zr1_s gr1_s 5 1 ur1_s (r.2.1.map Xq) ∧ Zm (zr1_s = 0 ∨ w.heap.size ≤ gr1_s) ∧ Zm (zr1_s = 0 ∨ zr0_1 = 0 ∨ gr1_s ≠ gr0_1) ∧ Gr w w') := by
 have O := m.lth
 have P := n.lth
 have Q := i.lth
 unfold Qee at hm
 refine Xe 68 Tryz.func17 rfl rfl rfl<|qs 7 rfl<|qe rfl (Qy (cs := Qs.cs p0) rfl rfl) ?_
 rintro _ w1 ⟨b1, rfl, a4, V, G1⟩
 have bi := V.lt
 refine qe rfl (Qy (cs := Za.cs p1) rfl rfl) ?_
 rintro _ w2 ⟨b2, rfl, a7, W, G2⟩
 have bj := W.lt
 refine qe rfl (Qy (cs := Qw.cs p2 vp2_1) rfl rfl) ?_
 rintro _ w3 ⟨b3, rfl, ba, X, G3⟩
 have bb := X.lt
 refine qe rfl (Qy (cs := Ze.cs p3 vp3_2 vp3_4 vp3_39) rfl rfl) ?_
 rintro _ w4 ⟨b4, rfl, bd, R, G4⟩
 have bf := R.lt
 refine qe rfl (Xh (cs := Qw.cs (Qw.mk (Qq.mk 0 [] (Qu.mk 0#64 0#64)) 0 (Zp.mk (Xg.mk false 0 k0) (Xg.mk false 0 k0))) (.slice none 0 0)) Gm rfl) ?_
 rintro _ w5 ⟨b5, rfl, bg, F, G5⟩
 have bh := F.lt
 refine qm rfl<|qm rfl<|qd 5 rfl ?_
 have Y1 := Gr.trans (Gr.trans (Gr.trans G2 G3) G4) G5
 have Y := (V.gr Y1)
 refine qv rfl (Qp Zw rfl Y rfl) ?_
 have Y2 := Gr.trans (Gr.trans G3 G4) G5
 have S := (W.gr Y2)
 refine qv rfl (Qp Yt rfl S rfl) ?_
 have Y3 := Gr.trans G4 G5
 have Z := (X.gr Y3)
 refine qv rfl (Qp Zr rfl Z rfl) ?_
 have Y4 := Gr.trans G1 Y1
 have aa := (N.gr Y4)
 obtain ⟨x1, ap, hm⟩ := Qc hm
 refine qe rfl (eC Qqc rfl (Qr2 ap aa)) ?_
 rintro _ w6 ⟨rfl, G6⟩
 have bk := G6.size
 refine qm rfl<|Qa ?_
 have Y5 := Gr.trans Y4 G6
 have aq := ((Gr.refl w).trans Y5)
 refine qj (β := Int) [13, 19, 20, 21, 22] (fun a2 => [(13, .int .i64 a2)]) (fun a2 wr => (Qat p0 p1 p2 p3 p4 a2 = some r) ∧ Kz [] w6 wr) ?_ ?_
 · refine qs 2 rfl<|qm rfl<|qv rfl (Jr (a := x1) (b := 0) rfl rfl)<|Qa<|Zu rfl (fun c6 => ?_) (fun c6 => ?_)
   · replace hm := iF c6 hm
     refine Vi ?_
     exact ⟨rfl, x1, Qf, hm, Qz⟩
   replace hm := iT c6 hm
   refine qg 3 rfl ?_
   have Y6 := Gr.trans G5 G6
   have ar := (R.gr Y6)
   refine qv rfl (Qp Dm rfl ar rfl) ?_
   have au := (m.gr Y5)
   have av := (n.gr Y5)
   have aw := (i.gr Y5)
   obtain ⟨ax, ab, hm⟩ := Qc hm
   refine qe rfl (eC Qzz rfl (Xad ab au av aw)) ?_
   rintro _ bl ⟨rfl, ay⟩
   refine qm rfl<|Qh ?_
   exact ⟨rfl, ax, Qf, hm, (Qz.gr ay)⟩
 clear hm; rintro a2 w7 ⟨hm, K7⟩
 have bm := K7.size
 unfold Qat at hm
 have ac := (aq.kz K7)
 refine qj (β := Int) ([13] ++ rg 23 7) (fun a3 => [(13, .int .i64 a3)]) (fun a3 wr => (Bt p0 p1 p2 p3 p4 a3 = some r) ∧ Kz [] w7 wr) ?_ ?_
 · refine qj (β := Bool) (rg 23 7) (fun G => [(29, .bool G)]) (fun G wr => (Bu p0 p1 p2 p3 p4 a2 G = some r) ∧ Kz [] w7 wr) ?_ ?_
   · refine qg 7 rfl<|qm rfl<|qv rfl (Jr (a := a2) (b := 0) rfl rfl)<|Jh rfl (Qm rfl) (fun c5 => ?_) (fun c5 => ?_)
     · replace hm := iF c5 hm
       refine qk rfl<|qk rfl<|qk rfl<|qm rfl<|Qh ?_
       exact ⟨rfl, false, Qf, hm, Qz⟩
     replace hm := iT c5 hm
     refine qm rfl ?_
     obtain ⟨az, ad, hm⟩ := Qc hm
     refine qe rfl (eC Qm1 rfl (Qm8 ad)) ?_
     rintro _ bo ⟨rfl, aA⟩
     refine qv rfl (Jb rfl)<|qm rfl<|Qh ?_
     exact ⟨rfl, (!az), Qf, hm, (Qz.gr aA)⟩
   clear hm; rintro G bp ⟨hm, ae⟩
   unfold Bu at hm
   refine Zu rfl (fun c4 => ?_) (fun c4 => ?_)
   · replace hm := Xw c4 hm
     refine Vi ?_
     exact ⟨rfl, a2, Qf, hm, (Qz.kz ae)⟩
   replace hm := Xx c4 hm
   refine qg 1 rfl<|qm rfl<|Qh ?_
   exact ⟨rfl, 2, Qf, hm, (Qz.kz ae)⟩
 clear hm; rintro a3 w8 ⟨hm, K8⟩
 have bq := K8.size
 unfold Bt at hm
 refine Qe<|qs 2 rfl<|qm rfl<|qv rfl (Jw (a := a3) (b := 0) rfl rfl)<|Qa<|Xj rfl (fun c1 => ?_) (fun c1 => ?_)
 · replace hm := iT c1 hm
   refine qs 5 rfl<|qv rfl (Zv (cs := Qw.cs (Qw.mk (Qq.mk 0 [] (Qu.mk 0#64 0#64)) 0 (Zp.mk (Xg.mk false 0 k0) (Xg.mk false 0 k0))) (.slice none 0 0)) Ht rfl (by kernel_rfl))<|qm rfl ?_
   have aB := (((F.gr G6).kz K7).kz K8)
   refine qe rfl (Qx Zr rfl rfl (Qw.cs_ones _ _ rfl) aB rfl rfl) ?_
   rintro _ w9 ⟨aC, M9⟩
   refine qm rfl<|qm rfl<|qb ?_
   have aD := ((ac.kz K8).md M9)
   cases hm
   refine ⟨_, _, rfl, Rw rfl (Xr Zr rfl aC rfl) (Qg rfl) (Qg rfl), ?_⟩
   exact ⟨(.slice none 0 0), 0, 0, (.slice none 0 0), 0, 0, rfl, (Ji _ 0 72 18), ⟨.inl rfl⟩, (Ji _ 0 5 1), ⟨.inl rfl⟩, ⟨(.inl rfl)⟩, aD⟩
 replace hm := iF c1 hm
 refine qu<|qs 7 rfl<|qv rfl (Qb Pp rfl)<|qv rfl (Qb Ho rfl) ?_
 have af := (((Z.gr G6).kz K7).kz K8)
 refine qv rfl (Qd (v := vp2_1) Hk rfl af rfl) ?_
 have aE := (((aa.gr G6).kz K7).kz K8)
 obtain ⟨x4, aF, hm⟩ := Qc hm
 refine qe rfl (eC Xa0 rfl (Xgj aF aE)) ?_
 rintro h br ⟨_, j, l, rfl, d, c, g⟩
 have bs := g.size
 have ag := d.lth
 refine qv rfl (Qb Pp rfl)<|qv rfl (Qb Ho rfl) ?_
 have aG := (af.gr g)
 refine qe rfl (Hn (cs' := Qw.cs (Qw.mk (Qq.mk p2.Secret.Receiver x4 p2.Secret.Share) p2.Ahead p2.Slots) h) (Hk).siz rfl rfl (Qn.oneB d) aG rfl rfl) ?_
 rintro _ H ⟨t, f⟩
 have bu := f.size
 refine qd 1 rfl<|qm rfl<|Qa ?_
 have ah := (((ac.kz K8).trans g).md f)
 refine qj (β := Int × List (BitVec 8) × Int × Qu × Int × Zp × Value × Nat × Nat) ([13, 14] ++ rg 40 22) (fun ⟨a5, a6, a8, a9, I, J, vy7, zy7, gy7⟩ => [(13, .int .i64 a5), (14, vy7)]) (fun ⟨a5, a6, a8, a9, I, J, vy7, zy7, gy7⟩ wr => (Qau x4 a5 a6 a8 a9 I J = some r) ∧ Qn wr zy7 gy7 5 1 vy7 (a6.map Xq) ∧ Zm (zy7 = 0 ∨ H.heap.size ≤ gy7) ∧ Bx wr b3 57 (Qw.cs (Qw.mk (Qq.mk a8 x4 a9) I J) h) ∧ Kz [(1, b3)] H wr) ?_ ?_
 · refine qs 3 rfl<|qv rfl (Qb Fl rfl) ?_
   have Y7 := Gr.trans G5 G6
   have T := (((((R.gr Y7).kz K7).kz K8).gr g).md f)
   refine qv rfl (Qd (v := bv p3.Kind) Xs rfl T rfl)<|qv rfl (Yz (p := p3.Kind) (q := 1#8) rfl rfl)<|Qa<|Xj rfl (fun c3 => ?_) (fun c3 => ?_)
   · replace hm := iT c3 hm
     refine qg 9 rfl ?_
     have aH := (((((Y.gr G6).kz K7).kz K8).gr g).md f)
     refine qv rfl (Qp Zw rfl aH rfl) ?_
     have aI := (((((S.gr G6).kz K7).kz K8).gr g).md f)
     refine qv rfl (Qp Yt rfl aI rfl)<|qv rfl (Qp Dm rfl T rfl)<|qm rfl<|qv rfl (Qb Nb rfl)<|qv rfl (Qd (v := .int .i64 p2.Ahead) Qv rfl t rfl)<|qv rfl (Zg (k := .i64) (a := p4) (b := p2.Ahead) rfl rfl) ?_
     have aJ := (d.md f (Jv c))
     have aK := (((((m.gr Y5).kz K7).kz K8).gr g).md f (Xd O))
     have aL := (((((n.gr Y5).kz K7).kz K8).gr g).md f (Xd P))
     have aM := (((((i.gr Y5).kz K7).kz K8).gr g).md f (Xd Q))
     obtain ⟨D, ai, hm⟩ := Qc hm
     refine qe rfl (eC Xa1 rfl (Xak ai t (Qn.rd aJ) aK aL aM ⟨(Qk (Jv (b := b3) c))⟩ ⟨(Qk (Xd (b := b3) O))⟩ ⟨(Qk (Xd (b := b3) P))⟩ ⟨(Qk (Xd (b := b3) Q))⟩)) ?_
     rintro _ bx ⟨rfl, K, aN⟩
     refine qm rfl<|Qh ?_
     exact ⟨rfl, ⟨D.1, [], D.2.Secret.Receiver, D.2.Secret.Share, D.2.Ahead, D.2.Slots, (.slice none 0 0), 0, 0⟩, Qf, hm, (Ji _ 0 5 1), ⟨(.inl rfl)⟩, K, (Kz.kz (Kz.refl _ _) aN)⟩
   replace hm := iF c3 hm
   refine qg 13 rfl ?_
   have aO := (((((S.gr G6).kz K7).kz K8).gr g).md f)
   refine qv rfl (Qp Yt rfl aO rfl)<|qv rfl (Qp Zr rfl t rfl)<|qv rfl (Qp Dm rfl T rfl)<|qm rfl<|qv rfl (Qb Nb rfl)<|qv rfl (Qd (v := .int .i64 p2.Ahead) Qv rfl t rfl)<|qv rfl (Zg (k := .i64) (a := p4) (b := p2.Ahead) rfl rfl) ?_
   have aP := (d.md f (Jv c))
   have aQ := (((((m.gr Y5).kz K7).kz K8).gr g).md f (Xd O))
   have aR := (((((n.gr Y5).kz K7).kz K8).gr g).md f (Xd P))
   have aS := (((((i.gr Y5).kz K7).kz K8).gr g).md f (Xd Q))
   obtain ⟨aj, ak, hm⟩ := Qc hm
   refine qe rfl (eC Xa2 rfl (Xam ak (Qn.rd aP) aQ aR aS)) ?_
   rintro _ aT ⟨u, y, z, rfl, B, C, al⟩
   refine qm rfl<|qm rfl<|qm rfl<|qm rfl<|qm rfl<|Qh ?_
   have K_62 : Kz [(1, b3)] H aT := (Kz.gr (Kz.refl _ _) al)
   have aU := (t.gr al)
   exact ⟨rfl, ⟨aj.2, aj.1, p2.Secret.Receiver, p2.Secret.Share, p2.Ahead, p2.Slots, u, y, z⟩, Qf, hm, B, ⟨(Jf (A := (fun x => H.heap.size ≤ x)) C)⟩, aU, K_62⟩
 clear hm; rintro ⟨a5, a6, a8, a9, I, J, vy7, zy7, gy7⟩ bz ⟨hm, L, s, M, E⟩
 unfold Qau at hm
 refine Qe<|qs 2 rfl<|qm rfl<|qv rfl (Jw (a := a5) (b := 0) rfl rfl)<|Qa<|Xj rfl (fun c2 => ?_) (fun c2 => ?_)
 · replace hm := iT c2 hm
   refine qs 5 rfl<|qv rfl (Zv (cs := Qw.cs (Qw.mk (Qq.mk 0 [] (Qu.mk 0#64 0#64)) 0 (Zp.mk (Xg.mk false 0 k0) (Xg.mk false 0 k0))) (.slice none 0 0)) Ht rfl (by kernel_rfl))<|qm rfl ?_
   have aV := ((((((F.gr G6).kz K7).kz K8).gr g).md f).kz E)
   refine qe rfl (Qx Zr rfl rfl (Qw.cs_ones _ _ rfl) aV rfl rfl) ?_
   rintro _ bA ⟨am, aW⟩
   refine qm rfl<|qm rfl<|qb ?_
   have aX := ((ah.kz E).md aW)
   cases hm
   refine ⟨_, _, rfl, Rw rfl (Xr Zr rfl am rfl) (Qg rfl) (Qg rfl), ?_⟩
   exact ⟨(.slice none 0 0), 0, 0, (.slice none 0 0), 0, 0, rfl, (Ji _ 0 72 18), ⟨.inl rfl⟩, (Ji _ 0 5 1), ⟨.inl rfl⟩, ⟨(.inl rfl)⟩, aX⟩
 replace hm := iF c2 hm
 refine qu<|qs 5 rfl<|qv rfl (Qp Zr rfl M rfl)<|qm rfl ?_
 have aY := ((((((F.gr G6).kz K7).kz K8).gr g).md f).kz E)
 have an := ((d.md f (Jv c)).kz E (Qk (Jv (b := b3) c)))
 refine qe rfl (Qx Zr rfl rfl (Qw.cs_ones _ _ (Qn.oneB an)) aY rfl rfl) ?_
 rintro _ bB ⟨ao, U⟩
 refine qm rfl<|qm rfl<|Qa<|Qo ?_
 have aZ := (an.md U (Jv c))
 have a0 := (L.md U (Jv s))
 have a1 := ((ah.kz E).md U)
 cases hm
 refine ⟨_, _, rfl, Rw rfl (Xr Zr rfl ao rfl) (Qg rfl) (Qg rfl), ?_⟩
 exact ⟨h, j, l, vy7, zy7, gy7, rfl, aZ, ⟨(Jf (A := (fun x => w.heap.size ≤ x)) c)⟩, a0, ⟨(Jf (A := (fun x => w.heap.size ≤ x)) s)⟩, ⟨(Jf (A := (fun x => j = 0 ∨ x ≠ l)) s (fun x hx => (Qk ag.o)))⟩, a1⟩
theorem Xfj {p0 vp0_0 zp0_0 gp0_0 op0_0 vp0_2 zp0_2 gp0_2 op0_2 r} (hm : Qgn p0 = some r) {w : World} (g : Rd w zp0_0 gp0_0 op0_0 18 vp0_0 (p0.Items.map Zd.cs)) (i : Rd w zp0_2 gp0_2 op0_2 2 vp0_2 (p0.Points.map Qu.cs)) :
    Calls Tryz.prog 122 [.agg (Zi.cs p0 vp0_0 vp0_2).toArray].toArray w fun e w' => ∃ v, e = .returned v ∧ (v = .bool r ∧ Gr w w') := by
 unfold Qgn at hm
 refine Xe 30 Tryz.func122 rfl rfl rfl<|qs 2 rfl<|qe rfl (Qy (cs := Zi.cs p0 vp0_0 vp0_2) rfl rfl) ?_
 rintro _ w1 ⟨b1, rfl, m, f, G1⟩
 refine qm rfl<|qd 28 rfl<|qv rfl (Qb Wg rfl)<|qv rfl (Qd (v := vp0_0) Wh rfl f rfl) ?_
 have B5 := (g.gr G1)
 refine qv rfl (Zo (l := p0.Items) (c := Zd.cs) Tryz.underlying33 rfl B5)<|qv rfl (Jr (a := (p0.Items.length : Int)) (b := 0) rfl rfl)<|Jh rfl (Qm rfl) (fun c1 => ?_) (fun c1 => ?_)
 · replace hm := iF c1 hm
   refine qk rfl<|qk rfl<|qk rfl<|qk rfl<|qm rfl<|qm rfl<|qk rfl<|qk rfl<|qk rfl<|qm rfl<|qm rfl<|qk rfl<|qk rfl<|qk rfl<|qk rfl<|qm rfl<|qm rfl<|qk rfl<|qk rfl<|qk rfl<|qk rfl<|qm rfl<|qm rfl<|Qa<|Qo ?_
   have j := ((Gr.refl w).trans G1)
   cases hm
   refine ⟨_, _, rfl, Qt rfl (Qg rfl), ?_⟩
   exact ⟨rfl, j⟩
 replace hm := iT c1 hm
 refine qv rfl (Qb Yw rfl)<|qv rfl (Qd (v := vp0_2) Yx rfl f rfl) ?_
 have B6 := (i.gr G1)
 refine qv rfl (Zo (l := p0.Points) (c := Qu.cs) Tryz.underlying34 rfl B6)<|qv rfl (Jr (a := (p0.Points.length : Int)) (b := 0) rfl rfl)<|qm rfl<|Jh rfl (Qm rfl) (fun c2 => ?_) (fun c2 => ?_)
 · replace hm := iF c2 hm
   refine qk rfl<|qk rfl<|qk rfl<|qm rfl<|qm rfl<|qk rfl<|qk rfl<|qk rfl<|qk rfl<|qm rfl<|qm rfl<|qk rfl<|qk rfl<|qk rfl<|qk rfl<|qm rfl<|qm rfl<|Qa<|Qo ?_
   have k := ((Gr.refl w).trans G1)
   cases hm
   refine ⟨_, _, rfl, Qt rfl (Qg rfl), ?_⟩
   exact ⟨rfl, k⟩
 replace hm := iT c2 hm
 refine qv rfl (Qb Gy rfl)<|qv rfl (Qd (v := wv p0.Base) Xm rfl f rfl)<|qv rfl (Tp (c := p0.Base) (d := 0#64) rfl rfl)<|qm rfl<|Jh rfl (Qm rfl) (fun c3 => ?_) (fun c3 => ?_)
 · replace hm := iF c3 hm
   refine qk rfl<|qk rfl<|qk rfl<|qk rfl<|qm rfl<|qm rfl<|qk rfl<|qk rfl<|qk rfl<|qk rfl<|qm rfl<|qm rfl<|Qa<|Qo ?_
   have X9 := ((Gr.refl w).trans G1)
   cases hm
   refine ⟨_, _, rfl, Qt rfl (Qg rfl), ?_⟩
   exact ⟨rfl, X9⟩
 replace hm := iT c3 hm
 refine qv rfl (Qb Bw rfl)<|qv rfl (Zy (vs := kb p0.Box) Ql rfl f rfl rfl)<|qv rfl (Vz Vt)<|qv rfl (Ss (cf := kb) (a := p0.Box) (b := k0) Dw rfl rfl rfl rfl (fun h => Hq h))<|qm rfl<|Jh rfl (Qm rfl) (fun c4 => ?_) (fun c4 => ?_)
 · replace hm := iF c4 hm
   refine qk rfl<|qk rfl<|qk rfl<|qk rfl<|qm rfl<|qm rfl<|Qa<|Qo ?_
   have X8 := ((Gr.refl w).trans G1)
   cases hm
   refine ⟨_, _, rfl, Qt rfl (Qg rfl), ?_⟩
   exact ⟨rfl, X8⟩
 replace hm := iT c4 hm
 refine qv rfl (Qb Bz rfl)<|qv rfl (Zy (vs := kb p0.Check) Ql rfl f rfl rfl)<|qv rfl (Vz Vt)<|qv rfl (Ss (cf := kb) (a := p0.Check) (b := k0) Dw rfl rfl rfl rfl (fun h => Hq h))<|qm rfl<|qm rfl<|Qa<|Qo ?_
 have X7 := ((Gr.refl w).trans G1)
 cases hm
 refine ⟨_, _, rfl, Qt rfl (Qg rfl), ?_⟩
 exact ⟨rfl, X7⟩
theorem Xfh {p0 vp0_2 zp0_2 gp0_2 op0_2 vp0_4 zp0_4 gp0_4 op0_4 vp0_39 zp0_39 gp0_39 op0_39 r} (hm : Qgl p0 = some r) {w : World} (g : Rd w zp0_2 gp0_2 op0_2 18 vp0_2 (p0.Head.Items.map Zd.cs)) (j : Rd w zp0_4 gp0_4 op0_4 2 vp0_4 (p0.Head.Points.map Qu.cs)) (h : Rd w zp0_39 gp0_39 op0_39 1 vp0_39 (p0.Data.map Xq)) :
    Calls Tryz.prog 64 [.agg (Ze.cs p0 vp0_2 vp0_4 vp0_39).toArray].toArray w fun e w' => ∃ v, e = .returned v ∧ (v = .bool r ∧ Gr w w') := by
 unfold Qgl at hm
 refine Xe 99 Tryz.func64 rfl rfl rfl<|qs 2 rfl<|qe rfl (Qy (cs := Ze.cs p0 vp0_2 vp0_4 vp0_39) rfl rfl) ?_
 rintro _ w1 ⟨b1, rfl, W, f, G1⟩
 have Y := f.lt
 refine qm rfl<|Qa<|Qe<|qs 3 rfl<|qv rfl (Qb Fl rfl)<|qv rfl (Qd (v := bv p0.Kind) Xs rfl f rfl)<|qv rfl (Yz (p := p0.Kind) (q := 2#8) rfl rfl)<|Qa<|Xj rfl (fun c1 => ?_) (fun c1 => ?_)
 · replace hm := iT c1 hm
   refine qs 20 rfl<|qv rfl (Qb Ca rfl)<|qv rfl (Qd (v := bv p0.Low) Xs rfl f rfl)<|qv rfl (Qon (p := p0.Low) (q := 3#8) rfl rfl)<|Jh rfl (Qm rfl) (fun c2 => ?_) (fun c2 => ?_)
   · replace hm := iF c2 hm
     refine qk rfl<|qk rfl<|qk rfl<|qk rfl<|qm rfl<|qm rfl<|qk rfl<|qk rfl<|qk rfl<|qm rfl<|qm rfl<|qk rfl<|qk rfl<|qk rfl<|qm rfl<|qm rfl<|qb ?_
     have H := ((Gr.refl w).trans G1)
     cases hm
     refine ⟨_, _, rfl, Qt rfl (Qg rfl), ?_⟩
     exact ⟨rfl, H⟩
   replace hm := iT c2 hm
   refine qv rfl (Qb Gc rfl)<|qv rfl (Qd (v := vp0_39) Hj rfl f rfl) ?_
   have B6 := (h.gr G1)
   refine qv rfl (Zo (l := p0.Data) (c := Xq) Tryz.underlying32 rfl B6)<|qv rfl (Pf (a := (p0.Data.length : Int)) (b := 256) rfl rfl)<|qm rfl<|Jh rfl (Qm rfl) (fun c3 => ?_) (fun c3 => ?_)
   · replace hm := iF c3 hm
     refine qk rfl<|qk rfl<|qk rfl<|qm rfl<|qm rfl<|qk rfl<|qk rfl<|qk rfl<|qm rfl<|qm rfl<|qb ?_
     have I := ((Gr.refl w).trans G1)
     cases hm
     refine ⟨_, _, rfl, Qt rfl (Qg rfl), ?_⟩
     exact ⟨rfl, I⟩
   replace hm := iT c3 hm
   refine qv rfl (Qb Pn rfl)<|qv rfl (Qd (v := .int .i64 p0.Epoch) Qv rfl f rfl)<|qv rfl (Jr (a := p0.Epoch) (b := 0) rfl rfl)<|qm rfl<|Jh rfl (Qm rfl) (fun c4 => ?_) (fun c4 => ?_)
   · replace hm := iF c4 hm
     refine qk rfl<|qk rfl<|qk rfl<|qm rfl<|qm rfl<|qb ?_
     have J := ((Gr.refl w).trans G1)
     cases hm
     refine ⟨_, _, rfl, Qt rfl (Qg rfl), ?_⟩
     exact ⟨rfl, J⟩
   replace hm := iT c4 hm
   refine qv rfl (Qb Yl rfl)<|qv rfl (Zy (vs := Zi.cs p0.Head vp0_2 vp0_4) Gn rfl f rfl rfl) ?_
   have B7 := (g.gr G1)
   have B8 := (j.gr G1)
   obtain ⟨x1, K, hm⟩ := Qc hm
   refine qe rfl (eC Qxz rfl (Xfj K B7 B8)) ?_
   rintro _ w2 ⟨rfl, G2⟩
   refine qm rfl<|qm rfl<|qb ?_
   have L := (((Gr.refl w).trans G1).trans G2)
   cases hm
   refine ⟨_, _, rfl, Qt rfl (Qg rfl), ?_⟩
   exact ⟨rfl, L⟩
 replace hm := iF c1 hm
 refine qu<|Qe ?_
 have C := ((Gr.refl w).trans G1)
 refine qj (β := Bool) (rg 27 39) (fun a2 => [(65, .bool a2)]) (fun a2 wr => (Lj p0 a2 = some r) ∧ Kz [] w1 wr) ?_ ?_
 · refine qg 39 rfl<|qv rfl (Qb Fl rfl)<|qv rfl (Qd (v := bv p0.Kind) Xs rfl f rfl)<|qv rfl (Qoo (p := p0.Kind) (q := 1#8) rfl rfl)<|qp rfl (Qm rfl) (fun o => ?_) (fun o => ?_)
   · replace hm := iT o hm
     refine qk rfl<|qk rfl<|qk rfl<|qk rfl<|qm rfl<|qm rfl<|qk rfl<|qk rfl<|qk rfl<|qm rfl<|qm rfl<|qk rfl<|qk rfl<|qk rfl<|qm rfl<|qm rfl<|qk rfl<|qk rfl<|qk rfl<|qk rfl<|qm rfl<|qm rfl<|qk rfl<|qk rfl<|qk rfl ?_
     refine qk rfl<|qk rfl<|qm rfl<|qm rfl<|qk rfl<|qk rfl<|qk rfl<|qk rfl<|qk rfl<|qm rfl<|Qh ?_
     exact ⟨rfl, true, Qf, hm, Qz⟩
   replace hm := iF o hm
   refine qv rfl (Qb Pn rfl)<|qv rfl (Qd (v := .int .i64 p0.Epoch) Qv rfl f rfl) ?_
   obtain ⟨x7, M, hm⟩ := Qc hm
   refine qe rfl (eC Qm2 rfl (Qnx M)) ?_
   rintro _ w8 ⟨rfl, G8⟩
   refine qv rfl (Jb rfl)<|qm rfl<|qp rfl (Qm rfl) (fun s => ?_) (fun s => ?_)
   · replace hm := Xx s hm
     refine qk rfl<|qk rfl<|qk rfl<|qm rfl<|qm rfl<|qk rfl<|qk rfl<|qk rfl<|qm rfl<|qm rfl<|qk rfl<|qk rfl<|qk rfl<|qk rfl<|qm rfl<|qm rfl<|qk rfl<|qk rfl<|qk rfl<|qk rfl<|qk rfl<|qm rfl<|qm rfl<|qk rfl<|qk rfl ?_
     refine qk rfl<|qk rfl<|qk rfl<|qm rfl<|Qh ?_
     exact ⟨rfl, true, Qf, hm, (Qz.gr G8)⟩
   replace hm := Xw s hm
   refine qv rfl (Qb Ca rfl) ?_
   have m := (f.gr G8)
   refine qv rfl (Qd (v := bv p0.Low) Xs rfl m rfl)<|qv rfl (Qoo (p := p0.Low) (q := 0#8) rfl rfl)<|qm rfl<|qp rfl (Qm rfl) (fun t => ?_) (fun t => ?_)
   · replace hm := iT t hm
     refine qk rfl<|qk rfl<|qk rfl<|qm rfl<|qm rfl<|qk rfl<|qk rfl<|qk rfl<|qk rfl<|qm rfl<|qm rfl<|qk rfl<|qk rfl<|qk rfl<|qk rfl<|qk rfl<|qm rfl<|qm rfl<|qk rfl<|qk rfl<|qk rfl<|qk rfl<|qk rfl<|qm rfl<|Qh ?_
     exact ⟨rfl, true, Qf, hm, (Qz.gr G8)⟩
   replace hm := iF t hm
   refine qv rfl (Qb Qb7 rfl)<|qv rfl (Qd (v := wv p0.Number) Xm rfl m rfl)<|qv rfl (Ok (c := p0.Number) (d := 0#64) rfl rfl)<|qm rfl<|qp rfl (Qm rfl) (fun u => ?_) (fun u => ?_)
   · replace hm := iT u hm
     refine qk rfl<|qk rfl<|qk rfl<|qk rfl<|qm rfl<|qm rfl<|qk rfl<|qk rfl<|qk rfl<|qk rfl<|qk rfl<|qm rfl<|qm rfl<|qk rfl<|qk rfl<|qk rfl<|qk rfl<|qk rfl<|qm rfl<|Qh ?_
     exact ⟨rfl, true, Qf, hm, (Qz.gr G8)⟩
   replace hm := iF u hm
   refine qv rfl (Qb Gc rfl)<|qv rfl (Qd (v := vp0_39) Hj rfl m rfl) ?_
   have N := ((h.gr G1).gr G8)
   refine qv rfl (Zo (l := p0.Data) (c := Xq) Tryz.underlying32 rfl N)<|qv rfl (Va (a := (p0.Data.length : Int)) (b := 0) rfl rfl)<|qm rfl<|qp rfl (Qm rfl) (fun x => ?_) (fun x => ?_)
   · replace hm := iT x hm
     refine qk rfl<|qk rfl<|qk rfl<|qk rfl<|qk rfl<|qm rfl<|qm rfl<|qk rfl<|qk rfl<|qk rfl<|qk rfl<|qk rfl<|qm rfl<|Qh ?_
     exact ⟨rfl, true, Qf, hm, (Qz.gr G8)⟩
   replace hm := iF x hm
   refine qv rfl (Qb Yl rfl)<|qv rfl (Qb Wg rfl)<|qv rfl (Qd (v := vp0_2) Wh rfl m rfl) ?_
   have O := ((g.gr G1).gr G8)
   refine qv rfl (Zo (l := p0.Head.Items) (c := Zd.cs) Tryz.underlying33 rfl O)<|qv rfl (Va (a := (p0.Head.Items.length : Int)) (b := 64) rfl rfl)<|qm rfl<|qp rfl (Qm rfl) (fun y => ?_) (fun y => ?_)
   · replace hm := iT y hm
     refine qk rfl<|qk rfl<|qk rfl<|qk rfl<|qk rfl<|qm rfl<|Qh ?_
     exact ⟨rfl, true, Qf, hm, (Qz.gr G8)⟩
   replace hm := iF y hm
   refine qv rfl (Qb Yl rfl)<|qv rfl (Qb Yw rfl)<|qv rfl (Qd (v := vp0_4) Yx rfl m rfl) ?_
   have P := ((j.gr G1).gr G8)
   refine qv rfl (Zo (l := p0.Head.Points) (c := Qu.cs) Tryz.underlying34 rfl P)<|qv rfl (Va (a := (p0.Head.Points.length : Int)) (b := 8) rfl rfl)<|qm rfl<|Qh ?_
   exact ⟨rfl, (decide ((8 : Int) < (p0.Head.Points.length : Int))), Qf, hm, (Qz.gr G8)⟩
 clear hm; rintro a2 w3 ⟨hm, K3⟩
 have Z := K3.size
 unfold Lj at hm
 refine Xj rfl (fun c5 => ?_) (fun c5 => ?_)
 · replace hm := Xx c5 hm
   refine qs 1 rfl<|qm rfl<|qb ?_
   have Q := (C.kz K3)
   cases hm
   refine ⟨_, _, rfl, Qt rfl (Qg rfl), ?_⟩
   exact ⟨rfl, Q⟩
 replace hm := Xw c5 hm
 refine qu<|Qe<|qs 1 rfl<|qm rfl<|Qa<|Xi ?_
 have D := (C.kz K3)
 have R := ((g.gr G1).kz K3)
 refine Zq (α := Nat × Int) ([2, 3, 4] ++ rg 66 33) (fun ⟨n2, a4⟩ => [(2, .bool false), (3, .int .i64 a4)]) (fun ⟨n2, a4⟩ wr => (Qr (It p0) n2 a4 = some r) ∧ Kz [] w3 wr) (fun ⟨n2, a4⟩ => n2) ⟨Xb, 0⟩ ?_ ?_ ?_
 · exact Qf
 · exact ⟨hm, Kz.refl _ _⟩
 clear hm; rintro ⟨n2, a4⟩ w4 ⟨hm, K4⟩
 have aa := K4.size
 have hb := Zx hm; clear hm; obtain ⟨n2, rfl, hm⟩ := hb
 generalize z : Qr (It p0) n2 = E at hm
 unfold It at hm
 try dsimp only at hm
 refine Qe<|qs 6 rfl<|qm rfl<|qv rfl (Qb Yl rfl)<|qv rfl (Qb Wg rfl) ?_
 have F := ((f.kz K3).kz K4)
 refine qv rfl (Qd (v := vp0_2) Wh rfl F rfl) ?_
 have A := (R.kz K4)
 refine qv rfl (Zo (l := p0.Head.Items) (c := Zd.cs) Tryz.underlying33 rfl A)<|qv rfl (Zc (a := a4) (b := (p0.Head.Items.length : Int)) rfl rfl)<|Qa<|Zu rfl (fun c6 => ?_) (fun c6 => ?_)
 · replace hm := iF c6 hm
   refine Zl<|Xk<|Xk<|Zk<|Xl<|qs 1 rfl<|qm rfl<|Qa<|Qo ?_
   have S := (D.kz K4)
   cases hm
   refine ⟨_, _, rfl, Qt rfl (Qg rfl), ?_⟩
   exact ⟨rfl, S⟩
 replace hm := iT c6 hm
 refine qu<|Qe<|Xi<|qs 9 rfl<|qv rfl (Qb Yl rfl)<|qv rfl (Qb Wg rfl)<|qv rfl (Qd (v := vp0_2) Wh rfl F rfl)<|qm rfl ?_
 obtain ⟨y5, G, hm⟩ := Qc hm
 refine qv rfl (Jm (i := a4) Tryz.underlying33 (Ph).siz rfl A rfl G)<|qv rfl (Qb Gb rfl)<|qv rfl (Qka (q := 0) (vs := Xo.cs y5.Subset) Wl rfl A G (by first | rfl | omega) rfl rfl)<|qe rfl (Xh (cs := Xo.cs (Xo.mk 0 0)) Qhb rfl) ?_
 rintro _ w5 ⟨b5, rfl, X, T, G5⟩
 refine qe rfl (Qx Wl rfl rfl rfl T rfl rfl) ?_
 rintro _ w6 ⟨n, M6⟩
 refine Qa ?_
 have U := (((D.kz K4).trans G5).md M6)
 refine qj (β := Bool) (rg 81 18) (fun a6 => [(98, .bool a6)]) (fun a6 wr => (Nk a4 E a6 = some r) ∧ Kz [] w6 wr) ?_ ?_
 · refine qg 18 rfl<|qv rfl (Qb Wt rfl)<|qv rfl (Qd (v := .int .i64 y5.Subset.Node) Qv rfl n rfl)<|qv rfl (Zc (a := y5.Subset.Node) (b := 0) rfl rfl)<|qp rfl (Qm rfl) (fun c8 => ?_) (fun c8 => ?_)
   · replace hm := iT c8 hm
     refine qk rfl<|qk rfl<|qk rfl<|qm rfl<|qm rfl<|qk rfl<|qk rfl<|qk rfl<|qm rfl<|qm rfl<|qk rfl<|qk rfl<|qk rfl<|qm rfl<|Qh ?_
     exact ⟨rfl, true, Qf, hm, Qz⟩
   replace hm := iF c8 hm
   refine qv rfl (Qb Wt rfl)<|qv rfl (Qd (v := .int .i64 y5.Subset.Node) Qv rfl n rfl)<|qv rfl (Va (a := y5.Subset.Node) (b := 127) rfl rfl)<|qm rfl<|qp rfl (Qm rfl) (fun c9 => ?_) (fun c9 => ?_)
   · replace hm := iT c9 hm
     refine qk rfl<|qk rfl<|qk rfl<|qm rfl<|qm rfl<|qk rfl<|qk rfl<|qk rfl<|qm rfl<|Qh ?_
     exact ⟨rfl, true, Qf, hm, Qz⟩
   replace hm := iF c9 hm
   refine qv rfl (Qb Vu rfl)<|qv rfl (Qd (v := .int .i64 y5.Subset.Minus) Qv rfl n rfl)<|qv rfl (Zc (a := y5.Subset.Minus) (b := 0) rfl rfl)<|qm rfl<|qp rfl (Qm rfl) (fun B => ?_) (fun B => ?_)
   · replace hm := iT B hm
     refine qk rfl<|qk rfl<|qk rfl<|qm rfl<|Qh ?_
     exact ⟨rfl, true, Qf, hm, Qz⟩
   replace hm := iF B hm
   refine qv rfl (Qb Vu rfl)<|qv rfl (Qd (v := .int .i64 y5.Subset.Minus) Qv rfl n rfl)<|qv rfl (Va (a := y5.Subset.Minus) (b := 127) rfl rfl)<|qm rfl<|Qh ?_
   exact ⟨rfl, (decide ((127 : Int) < y5.Subset.Minus)), Qf, hm, Qz⟩
 clear hm; rintro a6 w7 ⟨hm, K7⟩
 unfold Nk at hm
 refine Xj rfl (fun c7 => ?_) (fun c7 => ?_)
 · replace hm := Xx c7 hm
   refine qs 1 rfl<|qm rfl<|Qa<|Qo<|Zz<|Zf<|Zf<|Zz<|Zf ?_
   have V := (U.kz K7)
   cases hm
   refine ⟨_, _, rfl, Qt rfl (Qg rfl), ?_⟩
   exact ⟨rfl, V⟩
 replace hm := Xw c7 hm
 refine Vi<|Xy<|Xl<|qg 3 rfl<|qm rfl<|qv rfl (Zg (k := .i64) (a := a4) (b := 1) rfl rfl)<|qm rfl<|Qh ?_
 have K_30 : Kz [] w3 w7 := (((K4.gr G5).md M6).kz K7)
 subst z
 exact ⟨rfl, ⟨n2, Qi (a4 + 1)⟩, Qf, ⟨hm, K_30⟩, Nat.lt_succ_self _⟩
theorem Xff {p0 p1 p2 r} (hm : Qgk p0 p1 p2 = some r) {w : World} :
    Calls Tryz.prog 123 [.agg (Za.cs p0).toArray, .int .i64 p1, .int .i64 p2].toArray w fun e w' => ∃ v, e = .returned v ∧ (v = .bool r ∧ Gr w w') := by
 unfold Qgk at hm
 refine Xe 45 Tryz.func123 rfl rfl rfl<|qs 2 rfl<|qe rfl (Qy (cs := Za.cs p0) rfl rfl) ?_
 rintro _ w1 ⟨b1, rfl, d, c, G1⟩
 refine qm rfl<|qd 9 rfl<|qm rfl<|qv rfl (Qb Hf rfl)<|qv rfl (Qd (v := .int .i64 p0.Drift) Qv rfl c rfl)<|qv rfl (Vn (k := .i64) (a := p1) (b := p0.Drift) rfl rfl)<|qv rfl (Qb Lc rfl)<|qv rfl (Qd (v := .int .i64 p0.Delay) Qv rfl c rfl)<|qv rfl (Vn (k := .i64) (a := Qi (p1 - p0.Drift)) (b := p0.Delay) rfl rfl)<|qv rfl (Qkd rfl rfl)<|qm rfl<|qd 5 rfl<|qm rfl<|qv rfl (Qb Hf rfl)<|qv rfl (Qd (v := .int .i64 p0.Drift) Qv rfl c rfl)<|qv rfl (Zg (k := .i64) (a := p1) (b := p0.Drift) rfl rfl)<|qm rfl<|qd 25 rfl<|qm rfl ?_
 refine qm rfl<|qv rfl (Pf (a := Di (Qi ((Qi (p1 - p0.Drift)) - p0.Delay)) 0) (b := Qi (p1 + p0.Drift)) rfl rfl)<|Jh rfl (Qm rfl) (fun c1 => ?_) (fun c1 => ?_)
 · replace hm := iF c1 hm
   refine qk rfl<|qk rfl<|qk rfl<|qk rfl<|qk rfl<|qk rfl<|qk rfl<|qk rfl<|qm rfl<|qm rfl<|qk rfl<|qk rfl<|qk rfl<|qk rfl<|qk rfl<|qk rfl<|qk rfl<|qk rfl<|qk rfl<|qm rfl<|qm rfl<|Qa<|Qo ?_
   have X5 := ((Gr.refl w).trans G1)
   cases hm
   refine ⟨_, _, rfl, Qt rfl (Qg rfl), ?_⟩
   exact ⟨rfl, X5⟩
 replace hm := iT c1 hm
 refine qm rfl<|qm rfl<|qv rfl (Zg (k := .i64) (a := p2) (b := 1) rfl rfl)<|qv rfl (Qb Dx rfl)<|qv rfl (Qd (v := .int .i64 p0.Epoch) Qv rfl c rfl)<|qv rfl (Wa (k := .i64) (a := Qi (p2 + 1)) (b := p0.Epoch) rfl rfl)<|qv rfl (Vn (k := .i64) (a := Qi ((Qi (p2 + 1)) * p0.Epoch)) (b := 1) rfl rfl)<|qv rfl (Pf (a := Di (Qi ((Qi (p1 - p0.Drift)) - p0.Delay)) 0) (b := Qi ((Qi ((Qi (p2 + 1)) * p0.Epoch)) - 1)) rfl rfl)<|qm rfl<|Jh rfl (Qm rfl) (fun c2 => ?_) (fun c2 => ?_)
 · replace hm := iF c2 hm
   refine qk rfl<|qk rfl<|qk rfl<|qk rfl<|qk rfl<|qk rfl<|qk rfl<|qk rfl<|qk rfl<|qm rfl<|qm rfl<|Qa<|Qo ?_
   have X4 := ((Gr.refl w).trans G1)
   cases hm
   refine ⟨_, _, rfl, Qt rfl (Qg rfl), ?_⟩
   exact ⟨rfl, X4⟩
 replace hm := iT c2 hm
 refine qm rfl<|qm rfl<|qv rfl (Qb Dx rfl)<|qv rfl (Qd (v := .int .i64 p0.Epoch) Qv rfl c rfl)<|qv rfl (Wa (k := .i64) (a := p2) (b := p0.Epoch) rfl rfl)<|qv rfl (Qb Eu rfl)<|qv rfl (Qd (v := .int .i64 p0.Early) Qv rfl c rfl)<|qv rfl (Vn (k := .i64) (a := Qi (p2 * p0.Epoch)) (b := p0.Early) rfl rfl)<|qv rfl (Kl (a := Qi (p1 + p0.Drift)) (b := Qi ((Qi (p2 * p0.Epoch)) - p0.Early)) rfl rfl)<|qm rfl<|qm rfl<|Qa<|Qo ?_
 have X3 := ((Gr.refl w).trans G1)
 cases hm
 refine ⟨_, _, rfl, Qt rfl (Qg rfl), ?_⟩
 exact ⟨rfl, X3⟩
theorem Qcs {p0 p1 p2 vp0 zp0 gp0 r} (hm : Sl p0 p1 p2 = some r) {w : World} (h : Qn w zp0 gp0 5 1 vp0 (p0.map Xq)) :
    Calls Tryz.prog 186 [vp0, wv p1, .int .i64 p2].toArray w fun e w' => ∃ v, e = .returned v ∧ (∃ ur0_s zr0_s gr0_s, v = ur0_s ∧ Qn w' zr0_s gr0_s 5 1 ur0_s (r.map Xq) ∧ Zm (zr0_s = 0 ∨ (gr0_s = gp0 ∧ zp0 ≠ 0) ∨ w.heap.size ≤ gr0_s) ∧ Kz [(zp0, gp0)] w w') := by
 unfold Sl at hm
 refine Xe 24 Tryz.func186 rfl rfl rfl<|qs 1 rfl<|qm rfl<|Qa<|Qe<|qs 3 rfl<|qm rfl<|qv rfl (Vn (k := .i64) (a := p2) (b := 1) rfl rfl)<|qm rfl<|Qa<|Xi<|Zq (α := Nat × List (BitVec 8) × Int × Value × Nat × Nat) ([0, 7] ++ rg 10 13) (fun ⟨n1, a4, a6, vy5, zy5, gy5⟩ => [(0, vy5), (7, .int .i64 a6)]) (fun ⟨n1, a4, a6, vy5, zy5, gy5⟩ wr => (Qr (Iu p1) n1 (a4, a6) = some r) ∧ Qn wr zy5 gy5 5 1 vy5 (a4.map Xq) ∧ Zm (zy5 = 0 ∨ (gy5 = gp0 ∧ zp0 ≠ 0) ∨ w.heap.size ≤ gy5) ∧ Kz [(zp0, gp0)] w wr) (fun ⟨n1, a4, a6, vy5, zy5, gy5⟩ => n1) ⟨Xb, p0, Qi (p2 - 1), vp0, zp0, gp0⟩ ?_ ?_ ?_
 · exact Qf
 · exact ⟨hm, h, ⟨Qj⟩, Kz.refl _ _⟩
 clear hm; rintro ⟨n1, a4, a6, vy5, zy5, gy5⟩ w1 ⟨hm, f, d, K1⟩
 have z2 := K1.size
 have hb := Zx hm; clear hm; obtain ⟨n1, rfl, hm⟩ := hb
 generalize g : Qr (Iu p1) n1 = u at hm
 unfold Iu at hm
 try dsimp only at hm
 refine Qe<|qs 2 rfl<|qm rfl<|qv rfl (Kl (a := a6) (b := 0) rfl rfl)<|Qa<|Zu rfl (fun c1 => ?_) (fun c1 => ?_)
 · replace hm := iF c1 hm
   refine Zl<|Xk<|Xk<|Zk<|Xl<|qs 2 rfl<|qm rfl<|qm rfl<|Qa<|Qo ?_
   have X9 := ((Kz.refl [(zp0, gp0)] w).kz K1 (Qk (Qj : zp0 = 0 ∨ (gp0 = gp0 ∧ zp0 ≠ 0) ∨ w.heap.size ≤ gp0)))
   cases hm
   refine ⟨_, _, rfl, Qt rfl (Qg rfl), ?_⟩
   exact ⟨vy5, zy5, gy5, rfl, f, ⟨(Xc (A := (fun x => (x = gp0 ∧ zp0 ≠ 0) ∨ w.heap.size ≤ x)) d Qj)⟩, X9⟩
 replace hm := iT c1 hm
 refine qu<|Qe<|Xi<|qg 10 rfl<|qm rfl<|qm rfl<|qm rfl<|qv rfl (Wa (k := .i64) (a := 8) (b := a6) rfl rfl)<|qv rfl (Yb Qhy rfl) ?_
 obtain ⟨nn7, hnn7, hm⟩ := Qc hm
 refine qv rfl (Om (c := p1) (b := (un (wd (Qi (8 * a6))))) rfl rfl hnn7)<|qv rfl (Qh2 Pk rfl)<|qe rfl (Ve [(p1 >>> nn7).setWidth 8] Xq Gq rfl rfl (Kx rfl) rfl rfl rfl) ?_
 rintro z w2 ⟨B, y, i, G2⟩
 have z4 := G2.size
 have B6 := (f.gr G2)
 obtain ⟨l8, j, hm⟩ := Qc hm
 refine qe rfl (Vl (l := a4) (m := [(p1 >>> nn7).setWidth 8]) (c := Xq) Wf rfl rfl B6 (Qn.rd i) j (by decide)) ?_
 rintro n w3 ⟨o, p, q, s, C, t⟩
 refine qm rfl<|Qh<|Xy<|Xl<|qg 3 rfl<|qm rfl<|qv rfl (Vn (k := .i64) (a := a6) (b := 1) rfl rfl)<|qm rfl<|Qh ?_
 have K_8 : Kz [(zp0, gp0)] w w3 := ((K1.gr G2).ka s (Qk (Xc (A := (fun x => (x = gp0 ∧ zp0 ≠ 0) ∨ w.heap.size ≤ x)) d Qj)))
 subst g
 exact ⟨rfl, ⟨n1, l8, Qi (a6 - 1), n, o, p⟩, Qf, ⟨hm, q, ⟨(Jg (A := (fun x => (x = gp0 ∧ zp0 ≠ 0) ∨ w.heap.size ≤ x)) t (Xc (A := (fun x => (x = gp0 ∧ zp0 ≠ 0) ∨ w.heap.size ≤ x)) d Qj))⟩, K_8⟩, Nat.lt_succ_self _⟩
theorem Qu4 {p0 vp0_2 zp0_2 gp0_2 op0_2 vp0_4 zp0_4 gp0_4 op0_4 vp0_39 zp0_39 gp0_39 op0_39 r} (hm : Qch p0 = some r) {w : World} (am : Rd w zp0_2 gp0_2 op0_2 18 vp0_2 (p0.Head.Items.map Zd.cs)) (an : Rd w zp0_4 gp0_4 op0_4 2 vp0_4 (p0.Head.Points.map Qu.cs)) (L : Rd w zp0_39 gp0_39 op0_39 1 vp0_39 (p0.Data.map Xq)) :
    Calls Tryz.prog 104 [.agg (Ze.cs p0 vp0_2 vp0_4 vp0_39).toArray].toArray w fun e w' => ∃ v, e = .returned v ∧ (∃ ur0_s zr0_s gr0_s, v = ur0_s ∧ Qn w' zr0_s gr0_s 5 1 ur0_s (r.map Xq) ∧ Zm (zr0_s = 0 ∨ w.heap.size ≤ gr0_s) ∧ Gr w w') := by
 have aa := am.lth
 have s := an.lth
 have M := L.lth
 unfold Qch at hm
 refine Xe 123 Tryz.func104 rfl rfl rfl<|qs 2 rfl<|qe rfl (Qy (cs := Ze.cs p0 vp0_2 vp0_4 vp0_39) rfl rfl) ?_
 rintro _ w1 ⟨b1, rfl, cD, aN, G1⟩
 have c5 := aN.lt
 refine qm rfl<|qd 4 rfl<|qv rfl (Qb Fl rfl)<|qv rfl (Qd (v := bv p0.Kind) Xs rfl aN rfl)<|qe rfl (Ve [p0.Kind] Xq Gq rfl rfl (Kx rfl) rfl rfl rfl) ?_
 rintro c6 w2 ⟨R, cE, aX, G2⟩
 have z6 := G2.size
 refine qm rfl<|Qa<|Qe<|qs 3 rfl<|qv rfl (Qb Fl rfl) ?_
 have B8 := (aN.gr G2)
 refine qv rfl (Qd (v := bv p0.Kind) Xs rfl B8 rfl)<|qv rfl (Yz (p := p0.Kind) (q := 2#8) rfl rfl)<|Qa<|Xj rfl (fun c1 => ?_) (fun c1 => ?_)
 · replace hm := iT c1 hm
   refine qs 6 rfl<|qm rfl<|qv rfl (Qb Ca rfl)<|qv rfl (Qd (v := bv p0.Low) Xs rfl B8 rfl)<|qe rfl (Ve [p0.Low] Xq Gq rfl rfl (Kx rfl) rfl rfl rfl) ?_
   rintro c7 w3 ⟨c8, cF, bP, G3⟩
   have z9 := G3.size
   have bQ := (aX.gr G3)
   obtain ⟨l1, bR, hm⟩ := Qc hm
   refine qe rfl (Vl (l := [p0.Kind]) (m := [p0.Low]) (c := Xq) Wf rfl rfl bQ (Qn.rd bP) bR (by decide)) ?_
   rintro c9 w4 ⟨bS, bT, bU, aA, da, S⟩
   have db := aA.size
   refine qm rfl<|qd 5 rfl<|qm rfl<|qv rfl (Qb Qb7 rfl) ?_
   have aY := ((B8.gr G3).ka aA (Qk ((.inr Qj) : 1 = 0 ∨ R ≠ b1)))
   refine qv rfl (Qd (v := wv p0.Number) Xm rfl aY rfl) ?_
   obtain ⟨x2, bV, hm⟩ := Qc hm
   refine qe rfl (eC Qal rfl (Qcs bV bU)) ?_
   rintro aZ w5 ⟨_, ao, ap, rfl, aq, B, K5⟩
   have dc := K5.size
   refine qm rfl<|qd 7 rfl<|qm rfl<|qv rfl (Qb Gc rfl) ?_
   have a0 := (aY.kz K5 (Qk (Hl (b := b1) S (.inr Qj))))
   refine qv rfl (Qd (v := vp0_39) Hj rfl a0 rfl) ?_
   have a1 := (((((L.gr G1).gr G2).gr G3).ka aA (Qk ((Jl (.inr (Qk M.o))) : zp0_39 = 0 ∨ 1 = 0 ∨ gp0_39 ≠ R))).kz K5 (Qk ((Jl (Jg (A := (fun x => zp0_39 = 0 ∨ x ≠ gp0_39)) S (.inr (Qk M.o)) (fun x hx => (Qk M.o)))) : zp0_39 = 0 ∨ bS = 0 ∨ gp0_39 ≠ bT)))
   refine qv rfl (Zo (l := p0.Data) (c := Xq) Tryz.underlying32 rfl a1)<|qv rfl (Yb Ye rfl) ?_
   obtain ⟨x3, bW, hm⟩ := Qc hm
   refine qe rfl (eC Qal rfl (Qcs bW aq)) ?_
   rintro a2 w6 ⟨_, a3, a4, rfl, ar, T, K6⟩
   have dd := K6.size
   refine qm rfl<|qd 5 rfl<|qm rfl<|qv rfl (Qb Gc rfl) ?_
   have bX := (a0.kz K6 (Qk (Xp (b := b1) B (Hl S (.inr Qj)))))
   refine qv rfl (Qd (v := vp0_39) Hj rfl bX rfl) ?_
   have bY := (a1.kz K6 (Qk ((Jl (Xc (A := (fun x => zp0_39 = 0 ∨ x ≠ gp0_39)) B (Jg (A := (fun x => zp0_39 = 0 ∨ x ≠ gp0_39)) S (.inr (Qk M.o)) (fun x hx => (Qk M.o))) (fun x hx => (Qk M.o)))) : zp0_39 = 0 ∨ ao = 0 ∨ gp0_39 ≠ ap)))
   obtain ⟨l4, bZ, hm⟩ := Qc hm
   refine qe rfl (Vl (l := x3) (m := p0.Data) (c := Xq) Wf rfl rfl ar bY bZ (by decide)) ?_
   rintro b0 w7 ⟨b2, b3, b4, b5, de, b6⟩
   refine qm rfl<|qb ?_
   have b7 := ((((((((Gr.refl w).trans G1).trans G2).trans G3).ka aA (Qk ((.inr Qj) : 1 = 0 ∨ w.heap.size ≤ R))).kz K5 (Qk (Jg (A := (fun x => w.heap.size ≤ x)) S (.inr Qj)))).kz K6 (Qk (Xc (A := (fun x => w.heap.size ≤ x)) B (Jg (A := (fun x => w.heap.size ≤ x)) S (.inr Qj))))).ka b5 (Qk (Xc (A := (fun x => w.heap.size ≤ x)) T (Xc (A := (fun x => w.heap.size ≤ x)) B (Jg (A := (fun x => w.heap.size ≤ x)) S (.inr Qj))))))
   cases hm
   refine ⟨_, _, rfl, Qt rfl (Qg rfl), ?_⟩
   exact ⟨b0, b2, b3, rfl, b4, ⟨(Jg (A := (fun x => w.heap.size ≤ x)) b6 (Xc (A := (fun x => w.heap.size ≤ x)) T (Xc (A := (fun x => w.heap.size ≤ x)) B (Jg (A := (fun x => w.heap.size ≤ x)) S (.inr Qj)))))⟩, b7⟩
 replace hm := iF c1 hm
 refine qu<|qs 6 rfl<|qm rfl<|qv rfl (Qb Pn rfl)<|qv rfl (Qd (v := .int .i64 p0.Epoch) Qv rfl B8 rfl)<|qv rfl (Yb Ye rfl) ?_
 obtain ⟨x5, b8, hm⟩ := Qc hm
 refine qe rfl (eC Qal rfl (Qcs b8 aX)) ?_
 rintro a5 w8 ⟨_, E, F, rfl, U, d, K8⟩
 have df := K8.size
 have a6 := U.lth
 refine qm rfl<|qd 9 rfl<|qm rfl<|qv rfl (Qb Yl rfl)<|qv rfl (Qb Wg rfl) ?_
 have a7 := (B8.kz K8 (Qk ((.inr Qj) : 1 = 0 ∨ R ≠ b1)))
 refine qv rfl (Qd (v := vp0_2) Wh rfl a7 rfl) ?_
 have Y1 := Gr.trans G1 G2
 have a8 := ((am.gr Y1).kz K8 (Qk ((Jl (.inr (Qk aa.o))) : zp0_2 = 0 ∨ 1 = 0 ∨ gp0_2 ≠ R)))
 refine qv rfl (Zo (l := p0.Head.Items) (c := Zd.cs) Tryz.underlying33 rfl a8)<|qv rfl (Qk8 Qhz rfl)<|qe rfl (Ve [Vr (p0.Head.Items.length : Int)] Xq Gq rfl rfl (Kx rfl) rfl rfl rfl) ?_
 rintro dg w9 ⟨b9, cG, aO, G9⟩
 have di := G9.size
 have cH := aO.lth
 have ca := (U.gr G9)
 obtain ⟨l6, cb, hm⟩ := Qc hm
 refine qe rfl (Vl (l := x5) (m := [Vr (p0.Head.Items.length : Int)]) (c := Xq) Wf rfl rfl ca (Qn.rd aO) cb (by decide)) ?_
 rintro a9 N ⟨y, z, ba, H, cI, j⟩
 have dj := H.size
 refine qm rfl<|Qa<|Qe<|qs 1 rfl<|qm rfl<|Qa<|Xi ?_
 have cc := (((((Gr.refl w).trans Y1).kz K8 (Qk ((.inr Qj) : 1 = 0 ∨ w.heap.size ≤ R))).trans G9).ka H (Qk (Xc (A := (fun x => w.heap.size ≤ x)) d (.inr Qj))))
 have cd := ((a8.gr G9).ka H (Qk ((Jl (Xc (A := (fun x => zp0_2 = 0 ∨ x ≠ gp0_2)) d (.inr (Qk aa.o)) (fun x hx => (Qk aa.o)))) : zp0_2 = 0 ∨ E = 0 ∨ gp0_2 ≠ F)))
 have ce := ((((an.gr Y1).kz K8 (Qk ((Jl (.inr (Qk s.o))) : zp0_4 = 0 ∨ 1 = 0 ∨ gp0_4 ≠ R))).gr G9).ka H (Qk ((Jl (Xc (A := (fun x => zp0_4 = 0 ∨ x ≠ gp0_4)) d (.inr (Qk s.o)) (fun x hx => (Qk s.o)))) : zp0_4 = 0 ∨ E = 0 ∨ gp0_4 ≠ F)))
 have dk := ((((L.gr Y1).kz K8 (Qk ((Jl (.inr (Qk M.o))) : zp0_39 = 0 ∨ 1 = 0 ∨ gp0_39 ≠ R))).gr G9).ka H (Qk ((Jl (Xc (A := (fun x => zp0_39 = 0 ∨ x ≠ gp0_39)) d (.inr (Qk M.o)) (fun x hx => (Qk M.o)))) : zp0_39 = 0 ∨ E = 0 ∨ gp0_39 ≠ F)))
 have dl := (aO.ka H (Qk ((.inr (Qk a6.o)) : 1 = 0 ∨ E = 0 ∨ b9 ≠ F)))
 refine Zq (α := Nat × List (BitVec 8) × Int × Value × Nat × Nat) ([3, 4, 5] ++ rg 45 29) (fun ⟨n1, ab, O, vy11, zy11, gy11⟩ => [(3, vy11), (4, .int .i64 O)]) (fun ⟨n1, ab, O, vy11, zy11, gy11⟩ wr => (Qr (Qci p0) n1 (ab, O) = some r) ∧ Qn wr zy11 gy11 5 1 vy11 (ab.map Xq) ∧ Zm (zy11 = 0 ∨ (gy11 = z ∧ y ≠ 0) ∨ N.heap.size ≤ gy11) ∧ Kz [(y, z)] N wr) (fun ⟨n1, ab, O, vy11, zy11, gy11⟩ => n1) ⟨Xb, l6, 0, a9, y, z⟩ ?_ ?_ ?_
 · exact Qf
 · exact ⟨hm, ba, ⟨Qj⟩, Kz.refl _ _⟩
 clear hm; rintro ⟨n1, ab, O, vy11, zy11, gy11⟩ dp ⟨hm, P, f, ac⟩
 have dq := ac.size
 have aG := P.lth
 have hb := Zx hm; clear hm; obtain ⟨n1, rfl, hm⟩ := hb
 generalize aP : Qr (Qci p0) n1 = cJ at hm
 unfold Qci at hm
 try dsimp only at hm
 refine Qe<|qs 6 rfl<|qm rfl<|qv rfl (Qb Yl rfl)<|qv rfl (Qb Wg rfl) ?_
 have aB := (((a7.gr G9).ka H (Qk (Xp (b := b1) d (.inr Qj)))).kz ac (Qk (Hl (b := b1) j (Xp d (.inr Qj)))))
 refine qv rfl (Qd (v := vp0_2) Wh rfl aB rfl) ?_
 have aQ := (cd.kz ac (Qk ((Jl (Jg (A := (fun x => zp0_2 = 0 ∨ x ≠ gp0_2)) j (Xc (A := (fun x => zp0_2 = 0 ∨ x ≠ gp0_2)) d (.inr (Qk aa.o)) (fun x hx => (Qk aa.o))) (fun x hx => (Qk aa.o)))) : zp0_2 = 0 ∨ y = 0 ∨ gp0_2 ≠ z)))
 refine qv rfl (Zo (l := p0.Head.Items) (c := Zd.cs) Tryz.underlying33 rfl aQ)<|qv rfl (Zc (a := O) (b := (p0.Head.Items.length : Int)) rfl rfl)<|Qa<|Xj rfl (fun c2 => ?_) (fun c2 => ?_)
 · replace hm := iT c2 hm
   refine qu<|Qe<|Xi<|qs 8 rfl<|qv rfl (Qb Yl rfl)<|qv rfl (Qb Wg rfl)<|qv rfl (Qd (v := vp0_2) Wh rfl aB rfl)<|qm rfl ?_
   obtain ⟨V, aH, hm⟩ := Qc hm
   refine qv rfl (Jm (i := O) Tryz.underlying33 (Ph).siz rfl aQ rfl aH)<|qv rfl (Hc Ph rfl aQ aH (by first | rfl | omega))<|qe rfl (Xh (cs := Zd.cs (Zd.mk (Xo.mk 0 0) k0)) Qoy rfl) ?_
   rintro _ dr ⟨cf, rfl, cg, aI, bb⟩
   have cK := aI.lt
   refine qe rfl (Qx Ph rfl rfl rfl aI rfl rfl) ?_
   rintro _ ds ⟨au, aR⟩
   have dt := aR.size
   refine qd 12 rfl<|qm rfl<|qv rfl (Qb Gb rfl)<|qv rfl (Qb Wt rfl)<|qv rfl (Qd (v := .int .i64 V.Subset.Node) Qv rfl au rfl)<|qv rfl (Qk8 Qhz rfl)<|qv rfl (Qb Gb rfl)<|qv rfl (Qb Vu rfl)<|qv rfl (Qd (v := .int .i64 V.Subset.Minus) Qv rfl au rfl)<|qv rfl (Qk8 Qhz rfl)<|qe rfl (Ve [Vr V.Subset.Node, Vr V.Subset.Minus] Xq Qwh rfl rfl (Kx rfl) rfl rfl rfl) ?_
   rintro cL du ⟨cM, ch, bd, aC⟩
   have dv := aC.size
   have ci := (((P.gr bb).md aR (Xd aG)).gr aC)
   obtain ⟨cj, bf, hm⟩ := Qc hm
   refine qe rfl (Vl (l := ab) (m := [Vr V.Subset.Node, Vr V.Subset.Minus]) (c := Xq) Wf rfl rfl ci (Qn.rd bd) bf (by decide)) ?_
   rintro cN dy ⟨cO, cP, bg, av, cQ, aJ⟩
   have dz := av.size
   refine qm rfl<|Qa<|qg 5 rfl<|qm rfl<|qv rfl (Qb Qid rfl) ?_
   have ck := ((au.gr aC).ka av (Qk (Xd (b := cf) aG)))
   have bh := Qfj (o := 2) (p := V.Box) ck rfl
   refine qv rfl (Su (n := 16) (l := 0) (h := 16) Tryz.underlying23 (Xs).siz rfl rfl rfl (by decide) (by decide) (by decide)) ?_
   obtain ⟨cl, bi, hm⟩ := Qc hm
   refine qe rfl (Vl (l := cj) (m := Xz V.Box) (c := Xq) Wf rfl rfl bg bh bi (by decide)) ?_
   rintro bj cm ⟨bk, bl, bm, bo, cR, bp⟩
   refine qm rfl<|Qh<|Xy<|Xl<|qg 3 rfl<|qm rfl<|qv rfl (Zg (k := .i64) (a := O) (b := 1) rfl rfl)<|qm rfl<|Qh ?_
   have K_52 : Kz [(y, z)] N cm := (((((ac.gr bb).md aR).gr aC).ka av (Qk (Xc (A := (fun x => (x = z ∧ y ≠ 0) ∨ N.heap.size ≤ x)) f Qj))).ka bo (Qk (Jg (A := (fun x => (x = z ∧ y ≠ 0) ∨ N.heap.size ≤ x)) aJ (Xc (A := (fun x => (x = z ∧ y ≠ 0) ∨ N.heap.size ≤ x)) f Qj))))
   subst aP
   exact ⟨rfl, ⟨n1, cl, Qi (O + 1), bj, bk, bl⟩, Qf, ⟨hm, bm, ⟨(Jg (A := (fun x => (x = z ∧ y ≠ 0) ∨ N.heap.size ≤ x)) bp (Jg (A := (fun x => (x = z ∧ y ≠ 0) ∨ N.heap.size ≤ x)) aJ (Xc (A := (fun x => (x = z ∧ y ≠ 0) ∨ N.heap.size ≤ x)) f Qj)))⟩, K_52⟩, Nat.lt_succ_self _⟩
 replace hm := iF c2 hm
 refine Zl<|Xk<|Xk<|Zk<|Xl<|qs 6 rfl<|qm rfl<|qv rfl (Qb Yl rfl)<|qv rfl (Qb Gy rfl)<|qv rfl (Qd (v := wv p0.Head.Base) Xm rfl aB rfl) ?_
 obtain ⟨cn, bq, hm⟩ := Qc hm
 refine qe rfl (eC Qal rfl (Qcs bq P)) ?_
 rintro aT dA ⟨_, ad, ae, rfl, J, g, aD⟩
 have dB := aD.size
 have cS := J.lth
 refine qm rfl<|qd 9 rfl<|qm rfl<|qv rfl (Qb Yl rfl)<|qv rfl (Qb Yw rfl) ?_
 have br := (aB.kz aD (Qk (Xp (b := b1) f (Hl j (Xp d (.inr Qj))))))
 refine qv rfl (Qd (v := vp0_4) Yx rfl br rfl) ?_
 have bs := ((ce.kz ac (Qk ((Jl (Jg (A := (fun x => zp0_4 = 0 ∨ x ≠ gp0_4)) j (Xc (A := (fun x => zp0_4 = 0 ∨ x ≠ gp0_4)) d (.inr (Qk s.o)) (fun x hx => (Qk s.o))) (fun x hx => (Qk s.o)))) : zp0_4 = 0 ∨ y = 0 ∨ gp0_4 ≠ z))).kz aD (Qk ((Jl (Xc (A := (fun x => zp0_4 = 0 ∨ x ≠ gp0_4)) f (Jg (A := (fun x => zp0_4 = 0 ∨ x ≠ gp0_4)) j (Xc (A := (fun x => zp0_4 = 0 ∨ x ≠ gp0_4)) d (.inr (Qk s.o)) (fun x hx => (Qk s.o))) (fun x hx => (Qk s.o))) (fun x hx => (Qk s.o)))) : zp0_4 = 0 ∨ zy11 = 0 ∨ gp0_4 ≠ gy11)))
 refine qv rfl (Zo (l := p0.Head.Points) (c := Qu.cs) Tryz.underlying34 rfl bs)<|qv rfl (Qk8 Qhz rfl)<|qe rfl (Ve [Vr (p0.Head.Points.length : Int)] Xq Gq rfl rfl (Kx rfl) rfl rfl rfl) ?_
 rintro cT dC ⟨cU, co, bu, aw⟩
 have dD := aw.size
 have cp := (J.gr aw)
 obtain ⟨cq, bx, hm⟩ := Qc hm
 refine qe rfl (Vl (l := cn) (m := [Vr (p0.Head.Points.length : Int)]) (c := Xq) Wf rfl rfl cp (Qn.rd bu) bx (by decide)) ?_
 rintro bz Q ⟨C, D, bA, W, cV, G⟩
 have dE := W.size
 refine qm rfl<|Qa<|Qe<|qs 1 rfl<|qm rfl<|Qa<|Xi ?_
 have cr := ((((cc.kz ac (Qk (Jg (A := (fun x => w.heap.size ≤ x)) j (Xc (A := (fun x => w.heap.size ≤ x)) d (.inr Qj))))).kz aD (Qk (Xc (A := (fun x => w.heap.size ≤ x)) f (Jg (A := (fun x => w.heap.size ≤ x)) j (Xc (A := (fun x => w.heap.size ≤ x)) d (.inr Qj)))))).trans aw).ka W (Qk (Xc (A := (fun x => w.heap.size ≤ x)) g (Xc (A := (fun x => w.heap.size ≤ x)) f (Jg (A := (fun x => w.heap.size ≤ x)) j (Xc (A := (fun x => w.heap.size ≤ x)) d (.inr Qj)))))))
 have ct := ((bs.gr aw).ka W (Qk ((Jl (Xc (A := (fun x => zp0_4 = 0 ∨ x ≠ gp0_4)) g (Xc (A := (fun x => zp0_4 = 0 ∨ x ≠ gp0_4)) f (Jg (A := (fun x => zp0_4 = 0 ∨ x ≠ gp0_4)) j (Xc (A := (fun x => zp0_4 = 0 ∨ x ≠ gp0_4)) d (.inr (Qk s.o)) (fun x hx => (Qk s.o))) (fun x hx => (Qk s.o))) (fun x hx => (Qk s.o))) (fun x hx => (Qk s.o)))) : zp0_4 = 0 ∨ ad = 0 ∨ gp0_4 ≠ ae)))
 refine Zq (α := Nat × List (BitVec 8) × Int × Value × Nat × Nat) ([3, 6] ++ rg 87 26) (fun ⟨n2, af, I, vy22, zy22, gy22⟩ => [(3, vy22), (6, .int .i64 I)]) (fun ⟨n2, af, I, vy22, zy22, gy22⟩ wr => (Qr (Qcj p0) n2 (af, I) = some r) ∧ Qn wr zy22 gy22 5 1 vy22 (af.map Xq) ∧ Zm (zy22 = 0 ∨ (gy22 = D ∧ C ≠ 0) ∨ Q.heap.size ≤ gy22) ∧ Kz [(C, D)] Q wr) (fun ⟨n2, af, I, vy22, zy22, gy22⟩ => n2) ⟨Xb, cq, 0, bz, C, D⟩ ?_ ?_ ?_
 · exact Qf
 · exact ⟨hm, bA, ⟨Qj⟩, Kz.refl _ _⟩
 clear hm; rintro ⟨n2, af, I, vy22, zy22, gy22⟩ dF ⟨hm, Z, t, ax⟩
 have dG := ax.size
 have hb := Zx hm; clear hm; obtain ⟨n2, rfl, hm⟩ := hb
 generalize aS : Qr (Qcj p0) n2 = cW at hm
 unfold Qcj at hm
 try dsimp only at hm
 refine Qe<|qs 6 rfl<|qm rfl<|qv rfl (Qb Yl rfl)<|qv rfl (Qb Yw rfl) ?_
 have ay := (((br.gr aw).ka W (Qk (Xp (b := b1) g (Xp f (Hl j (Xp d (.inr Qj))))))).kz ax (Qk (Hl (b := b1) G (Xp g (Xp f (Hl j (Xp d (.inr Qj))))))))
 refine qv rfl (Qd (v := vp0_4) Yx rfl ay rfl) ?_
 have aE := (ct.kz ax (Qk ((Jl (Jg (A := (fun x => zp0_4 = 0 ∨ x ≠ gp0_4)) G (Xc (A := (fun x => zp0_4 = 0 ∨ x ≠ gp0_4)) g (Xc (A := (fun x => zp0_4 = 0 ∨ x ≠ gp0_4)) f (Jg (A := (fun x => zp0_4 = 0 ∨ x ≠ gp0_4)) j (Xc (A := (fun x => zp0_4 = 0 ∨ x ≠ gp0_4)) d (.inr (Qk s.o)) (fun x hx => (Qk s.o))) (fun x hx => (Qk s.o))) (fun x hx => (Qk s.o))) (fun x hx => (Qk s.o))) (fun x hx => (Qk s.o)))) : zp0_4 = 0 ∨ C = 0 ∨ gp0_4 ≠ D)))
 refine qv rfl (Zo (l := p0.Head.Points) (c := Qu.cs) Tryz.underlying34 rfl aE)<|qv rfl (Zc (a := I) (b := (p0.Head.Points.length : Int)) rfl rfl)<|Qa<|Xj rfl (fun c3 => ?_) (fun c3 => ?_)
 · replace hm := iT c3 hm
   refine qu<|Qe<|Xi<|qs 10 rfl<|qm rfl<|qv rfl (Qb Yl rfl)<|qv rfl (Qb Yw rfl)<|qv rfl (Qd (v := vp0_4) Yx rfl ay rfl)<|qm rfl ?_
   obtain ⟨cu, aK, hm⟩ := Qc hm
   refine qv rfl (Jm (i := I) Tryz.underlying34 (Vk).siz rfl aE rfl aK)<|qv rfl (Qb Ha rfl)<|qv rfl (Vq (q := 0) (u := wv cu.X) Xm rfl aE aK (by first | rfl | omega) rfl) ?_
   obtain ⟨dH, bB, hm⟩ := Qc hm
   refine qe rfl (eC Qal rfl (Qcs bB Z)) ?_
   rintro aU dI ⟨_, aV, aW, rfl, ag, K, aF⟩
   have dJ := aF.size
   refine qm rfl<|Qa<|qg 10 rfl<|qm rfl<|qv rfl (Qb Yl rfl)<|qv rfl (Qb Yw rfl) ?_
   have cv := (ay.kz aF (Qk (Xp (b := b1) t (Hl G (Xp g (Xp f (Hl j (Xp d (.inr Qj)))))))))
   refine qv rfl (Qd (v := vp0_4) Yx rfl cv rfl)<|qm rfl ?_
   obtain ⟨cw, aL, hm⟩ := Qc hm
   have bC := (aE.kz aF (Qk ((Jl (Xc (A := (fun x => zp0_4 = 0 ∨ x ≠ gp0_4)) t (Jg (A := (fun x => zp0_4 = 0 ∨ x ≠ gp0_4)) G (Xc (A := (fun x => zp0_4 = 0 ∨ x ≠ gp0_4)) g (Xc (A := (fun x => zp0_4 = 0 ∨ x ≠ gp0_4)) f (Jg (A := (fun x => zp0_4 = 0 ∨ x ≠ gp0_4)) j (Xc (A := (fun x => zp0_4 = 0 ∨ x ≠ gp0_4)) d (.inr (Qk s.o)) (fun x hx => (Qk s.o))) (fun x hx => (Qk s.o))) (fun x hx => (Qk s.o))) (fun x hx => (Qk s.o))) (fun x hx => (Qk s.o))) (fun x hx => (Qk s.o)))) : zp0_4 = 0 ∨ zy22 = 0 ∨ gp0_4 ≠ gy22)))
   refine qv rfl (Jm (i := I) Tryz.underlying34 (Vk).siz rfl bC rfl aL)<|qv rfl (Qb Gz rfl)<|qv rfl (Vq (q := 1) (u := wv cw.Y) Xm rfl bC aL (by first | rfl | omega) rfl) ?_
   obtain ⟨cx, bD, hm⟩ := Qc hm
   refine qe rfl (eC Qal rfl (Qcs bD ag)) ?_
   rintro ah cy ⟨_, ai, aj, rfl, ak, al, cz⟩
   refine qm rfl<|Qh<|Xy<|Xl<|qg 3 rfl<|qm rfl<|qv rfl (Zg (k := .i64) (a := I) (b := 1) rfl rfl)<|qm rfl<|Qh ?_
   have K_77 : Kz [(C, D)] Q cy := ((ax.kz aF (Qk (Xc (A := (fun x => (x = D ∧ C ≠ 0) ∨ Q.heap.size ≤ x)) t Qj))).kz cz (Qk (Xc (A := (fun x => (x = D ∧ C ≠ 0) ∨ Q.heap.size ≤ x)) K (Xc (A := (fun x => (x = D ∧ C ≠ 0) ∨ Q.heap.size ≤ x)) t Qj))))
   subst aS
   exact ⟨rfl, ⟨n2, cx, Qi (I + 1), ah, ai, aj⟩, Qf, ⟨hm, ak, ⟨(Xc (A := (fun x => (x = D ∧ C ≠ 0) ∨ Q.heap.size ≤ x)) al (Xc (A := (fun x => (x = D ∧ C ≠ 0) ∨ Q.heap.size ≤ x)) K (Xc (A := (fun x => (x = D ∧ C ≠ 0) ∨ Q.heap.size ≤ x)) t Qj)))⟩, K_77⟩, Nat.lt_succ_self _⟩
 replace hm := iF c3 hm
 refine Zl<|Xk<|Xk<|Zk<|Xl<|qs 6 rfl<|qm rfl<|qv rfl (Qb Yl rfl)<|qv rfl (Qb Bw rfl) ?_
 have bE := Qfj (o := 5) (p := p0.Head.Box) ay rfl
 refine qv rfl (Su (n := 16) (l := 0) (h := 16) Tryz.underlying23 (Xs).siz rfl rfl rfl (by decide) (by decide) (by decide)) ?_
 obtain ⟨cA, bF, hm⟩ := Qc hm
 refine qe rfl (Vl (l := af) (m := Xz p0.Head.Box) (c := Xq) Wf rfl rfl Z bE bF (by decide)) ?_
 rintro cX dK ⟨cY, cZ, bG, az, c0, aM⟩
 have dL := az.size
 refine qm rfl<|qd 6 rfl<|qm rfl<|qv rfl (Qb Yl rfl)<|qv rfl (Qb Bz rfl) ?_
 have cB := (ay.ka az (Qk (Xp (b := b1) t (Hl G (Xp g (Xp f (Hl j (Xp d (.inr Qj)))))))))
 have bH := Qfj (o := 21) (p := p0.Head.Check) cB rfl
 refine qv rfl (Su (n := 16) (l := 0) (h := 16) Tryz.underlying23 (Xs).siz rfl rfl rfl (by decide) (by decide) (by decide)) ?_
 obtain ⟨dM, bI, hm⟩ := Qc hm
 refine qe rfl (Vl (l := cA) (m := Xz p0.Head.Check) (c := Xq) Wf rfl rfl bG bH bI (by decide)) ?_
 rintro bJ dN ⟨bK, bL, bM, bN, c4, bO⟩
 refine qm rfl<|Qa<|Qo ?_
 have cC := (((cr.kz ax (Qk (Jg (A := (fun x => w.heap.size ≤ x)) G (Xc (A := (fun x => w.heap.size ≤ x)) g (Xc (A := (fun x => w.heap.size ≤ x)) f (Jg (A := (fun x => w.heap.size ≤ x)) j (Xc (A := (fun x => w.heap.size ≤ x)) d (.inr Qj)))))))).ka az (Qk (Xc (A := (fun x => w.heap.size ≤ x)) t (Jg (A := (fun x => w.heap.size ≤ x)) G (Xc (A := (fun x => w.heap.size ≤ x)) g (Xc (A := (fun x => w.heap.size ≤ x)) f (Jg (A := (fun x => w.heap.size ≤ x)) j (Xc (A := (fun x => w.heap.size ≤ x)) d (.inr Qj))))))))).ka bN (Qk (Jg (A := (fun x => w.heap.size ≤ x)) aM (Xc (A := (fun x => w.heap.size ≤ x)) t (Jg (A := (fun x => w.heap.size ≤ x)) G (Xc (A := (fun x => w.heap.size ≤ x)) g (Xc (A := (fun x => w.heap.size ≤ x)) f (Jg (A := (fun x => w.heap.size ≤ x)) j (Xc (A := (fun x => w.heap.size ≤ x)) d (.inr Qj))))))))))
 cases hm
 refine ⟨_, _, rfl, Qt rfl (Qg rfl), ?_⟩
 exact ⟨bJ, bK, bL, rfl, bM, ⟨(Jg (A := (fun x => w.heap.size ≤ x)) bO (Jg (A := (fun x => w.heap.size ≤ x)) aM (Xc (A := (fun x => w.heap.size ≤ x)) t (Jg (A := (fun x => w.heap.size ≤ x)) G (Xc (A := (fun x => w.heap.size ≤ x)) g (Xc (A := (fun x => w.heap.size ≤ x)) f (Jg (A := (fun x => w.heap.size ≤ x)) j (Xc (A := (fun x => w.heap.size ≤ x)) d (.inr Qj)))))))))⟩, cC⟩
theorem Qtt {p0 vp0 zp0 gp0 op0 r} (hm : Qc4 p0 = some r) {w : World} (d : Rd w zp0 gp0 op0 1 vp0 (p0.map Xq)) :
    Calls Tryz.prog 182 [vp0].toArray w fun e w' => ∃ v, e = .returned v ∧ (v = .int .i64 r ∧ Gr w w') := by
 unfold Qc4 at hm
 refine Xe 7 Tryz.func182 rfl rfl rfl<|qs 1 rfl<|qm rfl<|qd 5 rfl<|qm rfl<|qv rfl (Zo (l := p0) (c := Xq) Tryz.underlying32 rfl d)<|qv rfl (Zg (k := .i64) (a := (p0.length : Int)) (b := 15) rfl rfl) ?_
 obtain ⟨x1, f, hm⟩ := Qc hm
 refine qv rfl (Tq (a := Qi ((p0.length : Int) + 15)) (b := 16) rfl rfl f)<|qm rfl<|Qa<|Qo ?_
 cases hm
 refine ⟨_, _, rfl, Qt rfl (Qg rfl), ?_⟩
 exact ⟨rfl, (Gr.refl w)⟩
theorem Qnp {p0 p1 vp0 zp0 gp0 op0 r} (hm : Qc3 p0 p1 = some r) {w : World} (d : Rd w zp0 gp0 op0 1 vp0 (p0.map Xq)) :
    Calls Tryz.prog 184 [vp0, .int .i64 p1].toArray w fun e w' => ∃ v, e = .returned v ∧ (v = kv r ∧ Gr w w') := by
 unfold Qc3 at hm
 refine Xe 10 Tryz.func184 rfl rfl rfl<|qs 1 rfl<|qe rfl (Xh (cs := kb k0) Zh rfl) ?_
 rintro _ w1 ⟨b1, rfl, m, f, G1⟩
 refine qd 6 rfl<|qm rfl<|qm rfl<|qv rfl (Wa (k := .i64) (a := 16) (b := p1) rfl rfl) ?_
 obtain ⟨l1, g, hm⟩ := Qc hm
 have B4 := (d.gr G1)
 refine qt rfl (Qos (P := Tryz.prog) (lo := Qi (16 * p1)) (hi := (p0.length : Int)) (l := p0) (c := Xq) Tryz.underlying32 (Xs).siz rfl B4 ⟨_, rfl⟩ rfl g) ?_
 rintro v5 o5 R5
 obtain ⟨x2, h, hm⟩ := Qc hm
 refine qe rfl (eC Qam rfl (Qno h R5)) ?_
 rintro _ w2 ⟨rfl, G2⟩
 have B8 := (f.gr G2)
 refine qe rfl (Qx Ql rfl rfl rfl B8 rfl rfl) ?_
 rintro _ w3 ⟨i, M3⟩
 refine Qa<|Qo ?_
 have j := ((((Gr.refl w).trans G1).trans G2).md M3)
 cases hm
 refine ⟨_, _, rfl, Qt rfl (Xr Ql rfl i rfl), ?_⟩
 exact ⟨rfl, j⟩
theorem Qc2 {p0 p1 r} (hm : Qc0 p0 p1 = some r) {w : World} :
    Calls Tryz.prog 183 [kv p0, kv p1].toArray w fun e w' => ∃ v, e = .returned v ∧ (v = kv r ∧ Gr w w') := by
 unfold Qc0 at hm
 refine Xe 20 Tryz.func183 rfl rfl rfl<|qs 3 rfl<|qe rfl (Qy (cs := kb p0) rfl rfl) ?_
 rintro _ w1 ⟨b1, rfl, z, f, G1⟩
 have D := f.lt
 refine qe rfl (Qy (cs := kb p1) rfl rfl) ?_
 rintro _ w2 ⟨b2, rfl, A, g, G2⟩
 have E := g.lt
 refine qe rfl (Xh (cs := kb k0) Zh rfl) ?_
 rintro _ w3 ⟨b3, rfl, B, m, G3⟩
 refine Qa<|Qe<|qs 1 rfl<|qm rfl<|Qa<|Xi ?_
 have X7 := ((((Gr.refl w).trans G1).trans G2).trans G3)
 have B8 := ((f.gr G2).gr G3)
 refine Zq (α := Nat × Int × W2) (rg 5 14) (fun ⟨n1, a3, a4⟩ => [(5, .int .i64 a3)]) (fun ⟨n1, a3, a4⟩ wr => (Qr (Qc1 p1) n1 (a3, a4) = some r) ∧ Bx wr b1 23 (kb a4) ∧ Kz [(1, b1)] w3 wr) (fun ⟨n1, a3, a4⟩ => n1) ⟨Xb, 0, p0⟩ ?_ ?_ ?_
 · exact Qf
 · exact ⟨hm, B8, Kz.refl _ _⟩
 clear hm; rintro ⟨n1, a3, a4⟩ w4 ⟨hm, c, K4⟩
 have hb := Zx hm; clear hm; obtain ⟨n1, rfl, hm⟩ := hb
 generalize d : Qr (Qc1 p1) n1 = C at hm
 unfold Qc1 at hm
 try dsimp only at hm
 refine Qe<|qs 2 rfl<|qm rfl<|qv rfl (Zc (a := a3) (b := 16) rfl rfl)<|Qa<|Zu rfl (fun c1 => ?_) (fun c1 => ?_)
 · replace hm := iF c1 hm
   refine Zl<|Xk<|Xk<|Zk<|Xl<|qs 2 rfl<|qv rfl (Qp Ql rfl c rfl) ?_
   have n := (m.kz K4)
   refine qe rfl (Qx Ql rfl rfl rfl n rfl rfl) ?_
   rintro _ w7 ⟨o, M7⟩
   refine Qa<|Qo ?_
   have s := ((X7.kz K4).md M7)
   cases hm
   refine ⟨_, _, rfl, Qt rfl (Xr Ql rfl o rfl), ?_⟩
   exact ⟨rfl, s⟩
 replace hm := iT c1 hm
 refine qu<|Qe<|Xi<|dw [([b1]),([])] [(9, [1])] (.leaf [(0,10),(1,10),(2,10),(3,11),(4,10),(5,10),(6,10),(7,10),(8,10),(9,0)]) ?_
 intro w5 G5 F
 refine Zj<|dm 0 rfl rfl<|dm 0 rfl rfl ?_
 obtain ⟨y5, h, hm⟩ := Qc hm
 refine dh 0 rfl rfl (fun w hS => Gj (i := a3) (p := a4) Tryz.underlying23 (Xs).siz rfl rfl h) ?_
 have j := (c.gr G5)
 refine dh 1 rfl rfl (fun w hS => Mu (off := 0) (p := a4) (i := a3) Xs rfl (Bx.kp j hS) rfl h (by omega))<|dm 0 rfl rfl ?_
 obtain ⟨y6, l, hm⟩ := Qc hm
 refine dh 0 rfl rfl (fun w hS => Gj (i := a3) (p := p1) Tryz.underlying23 (Xs).siz rfl rfl l) ?_
 have t := (((g.gr G3).kz K4).gr G5)
 refine dh 0 rfl rfl (fun w hS => Mu (off := 0) (p := p1) (i := a3) Xs rfl (Bx.kp t hS) rfl l (by omega))<|dh 0 rfl rfl (fun w hS => Qot (a := y5) (b := y6) rfl rfl) ?_
 obtain ⟨y7, u, hm⟩ := Qc hm
 refine dh 0 rfl rfl (fun w hS => Gj (i := a3) (p := a4) Tryz.underlying23 (Xs).siz rfl rfl u) ?_
 obtain ⟨x8, x, hm⟩ := Qc hm
 refine qz [(1, b1)] rfl (Qep (off := 0) (p := a4) (q := x8) (i := a3) (cs' := kb x8) (Xs).siz rfl rfl j rfl x rfl rfl rfl) ⟨fun _ => Qj, nofun, trivial⟩ ?_
 rintro _ w6 ⟨y, M6⟩
 refine kM M6<|Qh<|Xy<|Xl<|qg 3 rfl<|qm rfl<|qv rfl (Zg (k := .i64) (a := a3) (b := 1) rfl rfl)<|qm rfl<|Qh ?_
 have K_14 : Kz [(1, b1)] w3 w6 := ((K4.gr G5).md M6)
 subst d
 exact ⟨rfl, ⟨n1, Qi (a3 + 1), x8⟩, Qf, ⟨hm, y, K_14⟩, Nat.lt_succ_self _⟩
theorem Qts {p0 p1 vp1 zp1 gp1 op1 r} (hm : Qby p0 p1 = some r) {w : World} (i : Rd w zp1 gp1 op1 1 vp1 (p1.map Xq)) :
    Calls Tryz.prog 102 [kv p0, vp1].toArray w fun e w' => ∃ v, e = .returned v ∧ (v = kv r ∧ Gr w w') := by
 have j := i.lth
 unfold Qby at hm
 refine Xe 26 Tryz.func102 rfl rfl rfl<|qs 2 rfl<|qe rfl (Qy (cs := kb p0) rfl rfl) ?_
 rintro _ w1 ⟨b1, rfl, L, m, G1⟩
 have P := m.lt
 refine qe rfl (Xh (cs := kb k0) Zh rfl) ?_
 rintro _ w2 ⟨b2, rfl, M, n, G2⟩
 have Q := n.lt
 refine qd 7 rfl ?_
 have B6 := (m.gr G2)
 refine qv rfl (Qp Ql rfl B6 rfl)<|qm rfl ?_
 have B7 := ((i.gr G1).gr G2)
 refine qv rfl (Zo (l := p1) (c := Xq) Tryz.underlying32 rfl B7)<|qv rfl (Yb Ye rfl)<|qe rfl (eC Dt rfl (Td p0 (Xf 2#8) (Vy _) (Vx _) (wd (p1.length : Int)) _)) ?_
 rintro _ w3 ⟨rfl, G3⟩
 have z8 := G3.size
 refine qe rfl (Xh (cs := kb k0) Zh rfl) ?_
 rintro _ w4 ⟨b4, rfl, N, u, G4⟩
 refine qe rfl (Qx Ql rfl rfl rfl u rfl rfl) ?_
 rintro _ w5 ⟨x, M5⟩
 refine Qa<|Qe<|qs 1 rfl<|qm rfl<|Qa<|Xi ?_
 have y := ((((((Gr.refl w).trans G1).trans G2).trans G3).trans G4).md M5)
 have Y1 := Gr.trans G3 G4
 have z := ((B7.gr Y1).md M5 (Xd j))
 refine Zq (α := Nat × Int × W2) ([6] ++ rg 12 13) (fun ⟨n1, a3, a4⟩ => [(6, .int .i64 a3)]) (fun ⟨n1, a3, a4⟩ wr => (Qr (Qbz p0 p1) n1 (a3, a4) = some r) ∧ Bx wr b4 23 (kb a4) ∧ Kz [(1, b4)] w5 wr) (fun ⟨n1, a3, a4⟩ => n1) ⟨Xb, 0, Jk p0 (Xf 2#8) (wd (p1.length : Int))⟩ ?_ ?_ ?_
 · exact Qf
 · exact ⟨hm, x, Kz.refl _ _⟩
 clear hm; rintro ⟨n1, a3, a4⟩ w6 ⟨hm, d, K6⟩
 have hb := Zx hm; clear hm; obtain ⟨n1, rfl, hm⟩ := hb
 generalize f : Qr (Qbz p0 p1) n1 = O at hm
 unfold Qbz at hm
 try dsimp only at hm
 refine Qe<|qs 4 rfl<|qm rfl<|qm rfl ?_
 have o := (z.kz K6 (Qk (Xd (b := b4) j)))
 obtain ⟨x5, A, hm⟩ := Qc hm
 refine qe rfl (eC Qq7 rfl (Qtt A o)) ?_
 rintro _ w7 ⟨rfl, G7⟩
 refine qv rfl (Zc (a := a3) (b := x5) rfl rfl)<|Qa<|Zu rfl (fun c1 => ?_) (fun c1 => ?_)
 · replace hm := iF c1 hm
   refine Zl<|Xk<|Xk<|Zk<|Xl<|qs 2 rfl ?_
   have B := (d.gr G7)
   refine qv rfl (Qp Ql rfl B rfl) ?_
   have C := ((((n.gr Y1).md M5).kz K6).gr G7)
   refine qe rfl (Qx Ql rfl rfl rfl C rfl rfl) ?_
   rintro _ R ⟨p, D⟩
   refine Qa<|Qo ?_
   have E := (((y.kz K6).trans G7).md D)
   cases hm
   refine ⟨_, _, rfl, Qt rfl (Xr Ql rfl p rfl), ?_⟩
   exact ⟨rfl, E⟩
 replace hm := iT c1 hm
 refine qu<|Qe<|Xi<|dw [([b4]),([])] [(7, [1])] (.leaf [(0,10),(1,11),(2,10),(3,10),(4,0),(5,0),(6,0),(7,0)]) ?_
 intro w8 G8 S
 refine Zj ?_
 have Y2 := Gr.trans G7 G8
 have F := ((((B6.gr Y1).md M5).kz K6).gr Y2)
 refine dh 0 rfl rfl (fun w hS => Qp Ql rfl (Bx.kp F hS) rfl) ?_
 have q := (d.gr Y2)
 refine dh 1 rfl rfl (fun w hS => Qp Ql rfl (Bx.kp q hS) rfl)<|dm 0 rfl rfl<|dm 0 rfl rfl ?_
 have G := (o.gr Y2)
 obtain ⟨x6, H, hm⟩ := Qc hm
 refine qz [] rfl (eC Qlm rfl (Qnp H G)) ⟨fun _ => Qj, fun _ => Qj, trivial⟩ ?_
 rintro _ w9 ⟨rfl, G9⟩
 refine kG G9 ?_
 obtain ⟨x7, I, hm⟩ := Qc hm
 refine qz [] rfl (eC Qak rfl (Qc2 I)) ⟨fun _ => Qj, fun _ => Qj, trivial⟩ ?_
 rintro _ T ⟨rfl, g⟩
 refine kG g<|qz [] rfl (eC Eh rfl (Qct p0 x7 _)) ⟨fun _ => Qj, fun _ => Qj, trivial⟩ ?_
 rintro _ U ⟨rfl, h⟩
 refine kG h ?_
 have J := (((q.gr G9).gr g).gr h)
 refine qz [(1, b4)] rfl (Qx Ql rfl rfl rfl J rfl rfl) ⟨fun _ => Qj, nofun, trivial⟩ ?_
 rintro _ K ⟨s, t⟩
 refine kM t<|Qh<|Xy<|Xl<|qg 3 rfl<|qm rfl<|qv rfl (Zg (k := .i64) (a := a3) (b := 1) rfl rfl)<|qm rfl<|Qh ?_
 have K_26 : Kz [(1, b4)] w5 K := (((((K6.gr Y2).gr G9).gr g).gr h).md t)
 subst f
 exact ⟨rfl, ⟨n1, Qi (a3 + 1), Wn p0 x7⟩, Qf, ⟨hm, s, K_26⟩, Nat.lt_succ_self _⟩
theorem Xfc {p0 p1 vp1_2 zp1_2 gp1_2 op1_2 vp1_4 zp1_4 gp1_4 op1_4 vp1_39 zp1_39 gp1_39 op1_39 r} (hm : Qgh p0 p1 = some r) {w : World} (c : Rd w zp1_2 gp1_2 op1_2 18 vp1_2 (p1.Head.Items.map Zd.cs)) (d : Rd w zp1_4 gp1_4 op1_4 2 vp1_4 (p1.Head.Points.map Qu.cs)) (b : Rd w zp1_39 gp1_39 op1_39 1 vp1_39 (p1.Data.map Xq)) :
    Calls Tryz.prog 46 [kv p0, .agg (Ze.cs p1 vp1_2 vp1_4 vp1_39).toArray].toArray w fun e w' => ∃ v, e = .returned v ∧ (v = kv r ∧ Gr w w') := by
 unfold Qgh at hm
 refine Xe 13 Tryz.func46 rfl rfl rfl<|qs 3 rfl<|qe rfl (Qy (cs := kb p0) rfl rfl) ?_
 rintro _ w1 ⟨b1, rfl, z, f, G1⟩
 have C := f.lt
 refine qe rfl (Qy (cs := Ze.cs p1 vp1_2 vp1_4 vp1_39) rfl rfl) ?_
 rintro _ w2 ⟨b2, rfl, A, g, G2⟩
 have D := g.lt
 refine qe rfl (Xh (cs := kb k0) Zh rfl) ?_
 rintro _ w3 ⟨b3, rfl, B, m, G3⟩
 refine Qa<|Qe<|dw [([b3])] [] (.leaf [(0,10),(1,10),(2,10),(3,10),(5,10),(4,0),(6,0),(7,0),(8,0)]) ?_
 intro w4 G4 E
 refine Zj ?_
 have Y1 := Gr.trans (Gr.trans G2 G3) G4
 have n := (f.gr Y1)
 refine dh 0 rfl rfl (fun w hS => Qp Ql rfl (Bx.kp n hS) rfl)<|dh 0 rfl rfl (fun w hS => Qb Pn rfl) ?_
 have Y2 := Gr.trans G3 G4
 have h := (g.gr Y2)
 refine dh 0 rfl rfl (fun w hS => Qd (v := .int .i64 p1.Epoch) Qv rfl (Bx.kp h hS) rfl)<|dh 0 rfl rfl (fun w hS => Yb Ye rfl)<|dh 0 rfl rfl (fun w hS => Qp Dm rfl (Bx.kp h hS) rfl)<|qz [] rfl (eC Dt rfl (Td p0 (Xf 52#8) (Vy _) (Vx _) (wd p1.Epoch) _)) ⟨fun _ => Qj, trivial⟩ ?_
 rintro _ w5 ⟨rfl, G5⟩
 refine kG G5 ?_
 have Y3 := Gr.trans (Gr.trans G1 Y1) G5
 have o := (c.gr Y3)
 have p := (d.gr Y3)
 have q := (b.gr Y3)
 obtain ⟨x1, s, hm⟩ := Qc hm
 refine qz [] rfl (eC Qq2 rfl (Qu4 s o p q)) ⟨fun _ => Qj, trivial⟩ ?_
 rintro i w6 ⟨_, j, k, rfl, a, l, G6⟩
 refine kG G6 ?_
 obtain ⟨x2, t, hm⟩ := Qc hm
 refine qz [] rfl (eC Qq1 rfl (Qts t (Qn.rd a))) ⟨fun _ => Qj, trivial⟩ ?_
 rintro _ w7 ⟨rfl, G7⟩
 refine kG G7 ?_
 have Y4 := Gr.trans (Gr.trans (Gr.trans G4 G5) G6) G7
 have u := (m.gr Y4)
 refine qz [(1, b3)] rfl (Qx Ql rfl rfl rfl u rfl rfl) ⟨fun _ => Qj, trivial⟩ ?_
 rintro _ w8 ⟨x, M8⟩
 refine kM M8<|Qa<|Qo ?_
 have y := (((((Gr.refl w).trans Y3).trans G6).trans G7).md M8)
 cases hm
 refine ⟨_, _, rfl, Qt rfl (Xr Ql rfl x rfl), ?_⟩
 exact ⟨rfl, y⟩
theorem Xfk {p0 p1 p2 p3 p4 vp2_1 zp2_1 gp2_1 op2_1 vp3_2 zp3_2 gp3_2 op3_2 vp3_4 zp3_4 gp3_4 op3_4 vp3_39 zp3_39 gp3_39 op3_39 r} (hm : Qgo p0 p1 p2 p3 p4 = some r) {w : World} (B : Rd w zp2_1 gp2_1 op2_1 18 vp2_1 (p2.Secret.Labels.map Xn.cs)) (C : Rd w zp3_2 gp3_2 op3_2 18 vp3_2 (p3.Head.Items.map Zd.cs)) (D : Rd w zp3_4 gp3_4 op3_4 2 vp3_4 (p3.Head.Points.map Qu.cs)) (s : Rd w zp3_39 gp3_39 op3_39 1 vp3_39 (p3.Data.map Xq)) :
    Calls Tryz.prog 66 [.agg (Qs.cs p0).toArray, .agg (Za.cs p1).toArray, .agg (Qw.cs p2 vp2_1).toArray, .agg (Ze.cs p3 vp3_2 vp3_4 vp3_39).toArray, .int .i64 p4].toArray w fun e w' => ∃ v, e = .returned v ∧ (∃ ur0_1 zr0_1 gr0_1, v = .tuple [.agg (Qw.cs r.1 ur0_1).toArray, .int .i64 r.2].toArray ∧ Qn w' zr0_1 gr0_1 72 18 ur0_1 (r.1.Secret.Labels.map Xn.cs) ∧ Zm (zr0_1 = 0 ∨ w.heap.size ≤ gr0_1) ∧ Gr w w') := by
 have O := B.lth
 have P := C.lth
 have Q := D.lth
 have R := s.lth
 unfold Qgo at hm
 refine Xe 73 Tryz.func66 rfl rfl rfl<|qs 6 rfl<|qe rfl (Qy (cs := Qs.cs p0) rfl rfl) ?_
 rintro _ w1 ⟨b1, rfl, ba, S, G1⟩
 have bp := S.lt
 refine qe rfl (Qy (cs := Za.cs p1) rfl rfl) ?_
 rintro _ w2 ⟨b2, rfl, bb, T, G2⟩
 have bq := T.lt
 refine qe rfl (Qy (cs := Qw.cs p2 vp2_1) rfl rfl) ?_
 rintro _ w3 ⟨b3, rfl, bd, U, G3⟩
 have bf := U.lt
 refine qe rfl (Qy (cs := Ze.cs p3 vp3_2 vp3_4 vp3_39) rfl rfl) ?_
 rintro _ w4 ⟨b4, rfl, bg, V, G4⟩
 have bh := V.lt
 refine qe rfl (Xh (cs := Qw.cs (Qw.mk (Qq.mk 0 [] (Qu.mk 0#64 0#64)) 0 (Zp.mk (Xg.mk false 0 k0) (Xg.mk false 0 k0))) (.slice none 0 0)) Gm rfl) ?_
 rintro _ w5 ⟨b5, rfl, bi, t, G5⟩
 have bj := t.lt
 refine qm rfl<|Qa<|Qe<|qs 9 rfl ?_
 have Y1 := Gr.trans (Gr.trans G3 G4) G5
 have ay := (T.gr Y1)
 refine qv rfl (Qp Yt rfl ay rfl)<|qm rfl<|qv rfl (Qb Nb rfl) ?_
 have Y2 := Gr.trans G4 G5
 have W := (U.gr Y2)
 refine qv rfl (Qd (v := .int .i64 p2.Ahead) Qv rfl W rfl)<|qv rfl (Zg (k := .i64) (a := p4) (b := p2.Ahead) rfl rfl)<|qv rfl (Qb Pn rfl) ?_
 have X := (V.gr G5)
 refine qv rfl (Qd (v := .int .i64 p3.Epoch) Qv rfl X rfl) ?_
 obtain ⟨x1, az, hm⟩ := Qc hm
 refine qe rfl (eC Qy0 rfl (Xff az)) ?_
 rintro _ w6 ⟨rfl, G6⟩
 have br := G6.size
 refine qv rfl (Jb rfl)<|Qa<|Xj rfl (fun c1 => ?_) (fun c1 => ?_)
 · replace hm := Xx c1 hm
   refine qs 3 rfl<|qv rfl (Zv (cs := Qw.cs (Qw.mk (Qq.mk 0 [] (Qu.mk 0#64 0#64)) 0 (Zp.mk (Xg.mk false 0 k0) (Xg.mk false 0 k0))) (.slice none 0 0)) Ht rfl (by kernel_rfl)) ?_
   have aA := (t.gr G6)
   refine qe rfl (Qx Zr rfl rfl (Qw.cs_ones _ _ rfl) aA rfl rfl) ?_
   rintro _ w7 ⟨aB, M7⟩
   refine qm rfl<|qb ?_
   have Y3 := Gr.trans (Gr.trans (Gr.trans G1 G2) Y1) G6
   have aC := (((Gr.refl w).trans Y3).md M7)
   cases hm
   refine ⟨_, _, rfl, Zb rfl (Xr Zr rfl aB rfl) (Qg rfl), ?_⟩
   exact ⟨(.slice none 0 0), 0, 0, rfl, (Ji _ 0 72 18), ⟨.inl rfl⟩, aC⟩
 replace hm := Xw c1 hm
 refine qu<|qs 8 rfl<|qv rfl (Qb Pn rfl) ?_
 have J := (X.gr G6)
 refine qv rfl (Qd (v := .int .i64 p3.Epoch) Qv rfl J rfl) ?_
 obtain ⟨x2, aD, hm⟩ := Qc hm
 refine qv rfl (Hm (a := p3.Epoch) (b := 2) rfl rfl aD)<|qv rfl (Qb Sa rfl) ?_
 obtain ⟨y3, Y, hm⟩ := Qc hm
 refine qv rfl (Qh5 (l := [p2.Slots.a0, p2.Slots.a1]) (i := x2) Tryz.underlying55 (Yu).siz rfl rfl Y rfl) ?_
 have Z := (W.gr G6)
 refine qv rfl (Hc Yu rfl (Rl (o := 5) (sz := 18) (xs := [p2.Slots.a0, p2.Slots.a1].map Xg.cs) (m := 2) (cap := 2) Z (Wb _ (fun _ => rfl) (fun _ => rfl)) rfl rfl) Y (by first | rfl | omega))<|qe rfl (Xh (cs := Xg.cs (Xg.mk false 0 k0)) Qhd rfl) ?_
 rintro _ w8 ⟨b8, rfl, bk, aa, G8⟩
 have bl := aa.lt
 refine qe rfl (Qx Yu rfl rfl rfl aa rfl rfl) ?_
 rintro _ w9 ⟨ab, M9⟩
 have bs := M9.size
 refine Qa<|Qe ?_
 have Y4 := Gr.trans (Gr.trans (Gr.trans (Gr.trans G1 G2) Y1) G6) G8
 have F := (((Gr.refl w).trans Y4).md M9)
 refine qj (β := Bool) (rg 31 9) (fun a4 => [(39, .bool a4)]) (fun a4 wr => (Qcr p0 p2 p3 a4 = some r) ∧ Kz [] w9 wr) ?_ ?_
 · refine qg 9 rfl<|qv rfl (Qb Cc rfl)<|qv rfl (Qd (v := .bool y3.Full) Sg rfl ab rfl)<|Jh rfl (Qm rfl) (fun c5 => ?_) (fun c5 => ?_)
   · replace hm := Xw c5 hm
     refine qk rfl<|qk rfl<|qk rfl<|qk rfl<|qk rfl<|qm rfl<|Qh ?_
     exact ⟨rfl, false, Qf, hm, Qz⟩
   replace hm := Xx c5 hm
   refine qv rfl (Qb Cd rfl)<|qv rfl (Qd (v := .int .i64 y3.Epoch) Qv rfl ab rfl)<|qv rfl (Qb Pn rfl) ?_
   have aE := ((J.gr G8).md M9)
   refine qv rfl (Qd (v := .int .i64 p3.Epoch) Qv rfl aE rfl)<|qv rfl (Kl (a := y3.Epoch) (b := p3.Epoch) rfl rfl)<|qm rfl<|Qh ?_
   exact ⟨rfl, (decide (p3.Epoch ≤ y3.Epoch)), Qf, hm, Qz⟩
 clear hm; rintro a4 bu ⟨hm, f⟩
 have bx := f.size
 unfold Qcr at hm
 refine Xj rfl (fun c2 => ?_) (fun c2 => ?_)
 · replace hm := Xx c2 hm
   refine qs 3 rfl<|qv rfl (Zv (cs := Qw.cs (Qw.mk (Qq.mk 0 [] (Qu.mk 0#64 0#64)) 0 (Zp.mk (Xg.mk false 0 k0) (Xg.mk false 0 k0))) (.slice none 0 0)) Ht rfl (by kernel_rfl)) ?_
   have Y5 := Gr.trans G6 G8
   have aF := (((t.gr Y5).md M9).kz f)
   refine qe rfl (Qx Zr rfl rfl (Qw.cs_ones _ _ rfl) aF rfl rfl) ?_
   rintro _ bz ⟨ac, aG⟩
   refine qm rfl<|qb ?_
   have aH := ((F.kz f).md aG)
   cases hm
   refine ⟨_, _, rfl, Zb rfl (Xr Zr rfl ac rfl) (Qg rfl), ?_⟩
   exact ⟨(.slice none 0 0), 0, 0, rfl, (Ji _ 0 72 18), ⟨.inl rfl⟩, aH⟩
 replace hm := Xw c2 hm
 refine qu<|qs 12 rfl ?_
 have Y6 := Gr.trans (Gr.trans (Gr.trans G2 Y1) G6) G8
 have aI := (((S.gr Y6).md M9).kz f)
 refine qv rfl (Qp Zw rfl aI rfl)<|qv rfl (Qb Pp rfl) ?_
 have ad := (((Z.gr G8).md M9).kz f)
 refine qv rfl (Zy (vs := Qq.cs p2.Secret vp2_1) Jc rfl ad rfl rfl)<|qv rfl (Qb Yl rfl) ?_
 have ae := (((J.gr G8).md M9).kz f)
 refine qv rfl (Zy (vs := Zi.cs p3.Head vp3_2 vp3_4) Gn rfl ae rfl rfl) ?_
 have af := (((B.gr Y4).md M9 (Xd O)).kz f)
 have ag := (((C.gr Y4).md M9 (Xd P)).kz f)
 have ah := (((D.gr Y4).md M9 (Xd Q)).kz f)
 obtain ⟨x5, aJ, hm⟩ := Qc hm
 refine qe rfl (eC Qy1 rfl (Xf8 aJ af ag ah)) ?_
 rintro _ bA ⟨rfl, K⟩
 have bB := K.size
 refine qm rfl<|qm rfl<|qm rfl<|qe rfl (Xh (cs := kb k0) Zh rfl) ?_
 rintro _ bC ⟨bD, rfl, aK, I, ai⟩
 have bm := I.lt
 refine qe rfl (Qx Ql rfl rfl rfl I rfl rfl) ?_
 rintro _ bE ⟨aj, g⟩
 have bF := g.size
 refine qm rfl<|Qa<|Qe<|qs 2 rfl<|qm rfl<|qv rfl (Jw (a := x5.2) (b := 0) rfl rfl)<|Qa<|Xj rfl (fun c3 => ?_) (fun c3 => ?_)
 · replace hm := iT c3 hm
   refine qs 4 rfl<|qv rfl (Zv (cs := Qw.cs (Qw.mk (Qq.mk 0 [] (Qu.mk 0#64 0#64)) 0 (Zp.mk (Xg.mk false 0 k0) (Xg.mk false 0 k0))) (.slice none 0 0)) Ht rfl (by kernel_rfl))<|qm rfl ?_
   have Y7 := Gr.trans G6 G8
   have Y8 := Gr.trans K ai
   have aL := (((((t.gr Y7).md M9).kz f).gr Y8).md g)
   refine qe rfl (Qx Zr rfl rfl (Qw.cs_ones _ _ rfl) aL rfl rfl) ?_
   rintro _ bG ⟨ak, aM⟩
   refine qm rfl<|qb ?_
   have aN := ((((F.kz f).trans Y8).md g).md aM)
   cases hm
   refine ⟨_, _, rfl, Zb rfl (Xr Zr rfl ak rfl) (Qg rfl), ?_⟩
   exact ⟨(.slice none 0 0), 0, 0, rfl, (Ji _ 0 72 18), ⟨.inl rfl⟩, aN⟩
 replace hm := iF c3 hm
 refine qu<|Qe<|Qe<|dw [([])] [] (.leaf [(0,10),(1,10),(3,10),(4,10),(2,0),(5,10)]) ?_
 intro aO p bo
 refine Zj ?_
 have al := (aj.gr p)
 refine dh 0 rfl rfl (fun w hS => Qp Ql rfl (Bx.kp al hS) rfl) ?_
 have Y9 := Gr.trans K ai
 have L := (((ae.gr Y9).md g).gr p)
 refine dh 0 rfl rfl (fun w hS => Qp Dm rfl (Bx.kp L hS) rfl)<|dh 0 rfl rfl (fun w hS => Qb Qie rfl)<|dh 0 rfl rfl (fun w hS => Zy (vs := kb p3.Mac) Ql rfl (Bx.kp L hS) rfl rfl) ?_
 have aP := (((ag.gr Y9).md g (Xd P)).gr p)
 have aQ := (((ah.gr Y9).md g (Xd Q)).gr p)
 have aR := ((((((s.gr Y4).md M9 (Xd R)).kz f).gr Y9).md g (Xd R)).gr p)
 obtain ⟨x6, aS, hm⟩ := Qc hm
 refine qz [] rfl (eC Qzv rfl (Xfc aS aP aQ aR)) ⟨fun _ => Qj, trivial⟩ ?_
 rintro _ bH ⟨rfl, u⟩
 have bI := u.size
 refine kG u ?_
 have aT := ((Kp.refl ([]) aO).gr u)
 refine qh 0 rfl rfl aT (fun w hS => Gk (cf := kb) (a := x6) (b := p3.Mac) Dw rfl rfl rfl rfl (fun h => Hq h))<|Qa<|Xj rfl (fun c4 => ?_) (fun c4 => ?_)
 · replace hm := iT c4 hm
   refine qs 3 rfl<|qv rfl (Zv (cs := Qw.cs (Qw.mk (Qq.mk 0 [] (Qu.mk 0#64 0#64)) 0 (Zp.mk (Xg.mk false 0 k0) (Xg.mk false 0 k0))) (.slice none 0 0)) Ht rfl (by kernel_rfl)) ?_
   have aU := Gr.trans G6 G8
   have am := Gr.trans p u
   have aV := ((((((t.gr aU).md M9).kz f).gr Y9).md g).gr am)
   refine qe rfl (Qx Zr rfl rfl (Qw.cs_ones _ _ rfl) aV rfl rfl) ?_
   rintro _ bJ ⟨an, aW⟩
   refine qm rfl<|qb ?_
   have aX := (((((F.kz f).trans Y9).md g).trans am).md aW)
   cases hm
   refine ⟨_, _, rfl, Zb rfl (Xr Zr rfl an rfl) (Qg rfl), ?_⟩
   exact ⟨(.slice none 0 0), 0, 0, rfl, (Ji _ 0 72 18), ⟨.inl rfl⟩, aX⟩
 replace hm := iF c4 hm
 refine qu<|qs 3 rfl ?_
 have G := Gr.trans p u
 have ao := (((ad.gr Y9).md g).gr G)
 refine qv rfl (Qp Zr rfl ao rfl) ?_
 have aY := (((af.gr Y9).md g (Xd O)).gr G)
 obtain ⟨x7, aZ, hm⟩ := Qc hm
 refine qe rfl (eC Qlj rfl (Qny aZ aY)) ?_
 rintro _ bK ⟨j, y, z, rfl, n, d, H⟩
 have a2 := (ao.gr H)
 refine qe rfl (Qx Zr rfl rfl (Qw.cs_ones _ _ (Qn.oneB n)) a2 rfl rfl) ?_
 rintro _ bL ⟨ap, E⟩
 refine qd 10 rfl<|qv rfl (Qb Pn rfl) ?_
 have aq := Gr.trans u H
 have ar := ((L.gr aq).md E)
 refine qv rfl (Qd (v := .int .i64 p3.Epoch) Qv rfl ar rfl) ?_
 obtain ⟨x8, a3, hm⟩ := Qc hm
 refine qv rfl (Hm (a := p3.Epoch) (b := 2) rfl rfl a3)<|qv rfl (Qb Pn rfl)<|qv rfl (Qd (v := .int .i64 p3.Epoch) Qv rfl ar rfl) ?_
 have a5 := ((al.gr aq).md E)
 refine qv rfl (Qp Ql rfl a5 rfl)<|qv rfl (Zv (cs := Xg.cs (Xg.mk true p3.Epoch x5.1)) Qdd rfl (Pq rfl rfl rfl (Pq rfl rfl rfl (Pq rfl rfl rfl (by kernel_rfl)))))<|qv rfl (Qb Sa rfl) ?_
 obtain ⟨y9, M, hm⟩ := Qc hm
 refine qv rfl (Qh5 (l := [x7.Slots.a0, x7.Slots.a1]) (i := x8) Tryz.underlying55 (Yu).siz rfl rfl M rfl)<|qe rfl (Qrf (sz := 18) (o := 5) (q := 0) (l := [x7.Slots.a0, x7.Slots.a1]) (c := Xg.cs) (a' := (Xg.mk true p3.Epoch x5.1)) (vs := Xg.cs (Xg.mk true p3.Epoch x5.1)) (cs' := Qw.cs (Qw.mk x7.Secret x7.Ahead (Zp.mk (if x8 = 0 then (Xg.mk true p3.Epoch x5.1) else x7.Slots.a0) (if x8 = 0 then x7.Slots.a1 else (Xg.mk true p3.Epoch x5.1)))) j) (Yu).siz rfl rfl rfl rfl rfl ap (Wb _ (fun _ => rfl) (fun _ => rfl)) rfl rfl M (by first | rfl | omega) rfl rfl (Qur M) rfl) ?_
 rintro _ bM ⟨au, N⟩
 refine qd 3 rfl<|qv rfl (Qp Zr rfl au rfl) ?_
 have a6 := Gr.trans G6 G8
 have a7 := (((((((((t.gr a6).md M9).kz f).gr Y9).md g).gr G).gr H).md E).md N)
 have av := ((n.md E (Jv d)).md N (Jv d))
 refine qe rfl (Qx Zr rfl rfl (Qw.cs_ones _ _ (Qn.oneB av)) a7 rfl rfl) ?_
 rintro _ bN ⟨aw, ax⟩
 refine qm rfl<|Qa<|Qo ?_
 have a8 := (av.md ax (Jv d))
 have a9 := ((((((((F.kz f).trans Y9).md g).trans G).trans H).md E).md N).md ax)
 cases hm
 refine ⟨_, _, rfl, Zb rfl (Xr Zr rfl aw rfl) (Qg rfl), ?_⟩
 exact ⟨j, y, z, rfl, a8, ⟨(Jf (A := (fun x => w.heap.size ≤ x)) d)⟩, a9⟩
theorem Xfa {p0 p1 p2 r} (hm : Qgf p0 p1 p2 = some r) {w : World} :
    Calls Tryz.prog 125 [.agg (Za.cs p0).toArray, .int .i64 p1, bv p2].toArray w fun e w' => ∃ v, e = .returned v ∧ (v = .int .i64 r ∧ Gr w w') := by
 unfold Qgf at hm
 refine Xe 36 Tryz.func125 rfl rfl rfl<|qs 2 rfl<|qe rfl (Qy (cs := Za.cs p0) rfl rfl) ?_
 rintro _ w1 ⟨b1, rfl, i, c, G1⟩
 refine qm rfl<|Qa<|Qe<|qs 9 rfl<|qm rfl<|qv rfl (Qb Hf rfl)<|qv rfl (Qd (v := .int .i64 p0.Drift) Qv rfl c rfl)<|qv rfl (Vn (k := .i64) (a := p1) (b := p0.Drift) rfl rfl)<|qv rfl (Qb Lc rfl)<|qv rfl (Qd (v := .int .i64 p0.Delay) Qv rfl c rfl)<|qv rfl (Vn (k := .i64) (a := Qi (p1 - p0.Drift)) (b := p0.Delay) rfl rfl)<|qv rfl (Qkd rfl rfl)<|qm rfl<|Qa<|Xi ?_
 have X3 := ((Gr.refl w).trans G1)
 refine Zq (α := Nat × Int) ([6, 7] ++ rg 16 20) (fun ⟨n1, a2⟩ => [(6, .int .i64 0), (7, .int .i64 a2)]) (fun ⟨n1, a2⟩ wr => (Qr (Rt p0 p1 p2) n1 a2 = some r) ∧ Kz [] w1 wr) (fun ⟨n1, a2⟩ => n1) ⟨Xb, Di (Qi ((Qi (p1 - p0.Drift)) - p0.Delay)) 0⟩ ?_ ?_ ?_
 · exact Qf
 · exact ⟨hm, Kz.refl _ _⟩
 clear hm; rintro ⟨n1, a2⟩ w2 ⟨hm, K2⟩
 have hb := Zx hm; clear hm; obtain ⟨n1, rfl, hm⟩ := hb
 generalize d : Qr (Rt p0 p1 p2) n1 = j at hm
 unfold Rt at hm
 try dsimp only at hm
 refine Qe<|qs 6 rfl<|qm rfl<|qm rfl<|qv rfl (Qb Hf rfl) ?_
 have B5 := (c.kz K2)
 refine qv rfl (Qd (v := .int .i64 p0.Drift) Qv rfl B5 rfl)<|qv rfl (Zg (k := .i64) (a := p1) (b := p0.Drift) rfl rfl)<|qv rfl (Pf (a := a2) (b := Qi (p1 + p0.Drift)) rfl rfl)<|Qa<|Zu rfl (fun c1 => ?_) (fun c1 => ?_)
 · replace hm := iF c1 hm
   refine Zl<|Xk<|Xk<|Zk<|Xl<|qs 1 rfl<|qm rfl<|Qa<|Qo ?_
   have X8 := (X3.kz K2)
   cases hm
   refine ⟨_, _, rfl, Qt rfl (Qg rfl), ?_⟩
   exact ⟨rfl, X8⟩
 replace hm := iT c1 hm
 refine qu<|Qe<|Xi<|qs 8 rfl<|qm rfl<|qv rfl (Qb Hv rfl)<|qv rfl (Qd (v := .int .i64 p0.Word) Qv rfl B5 rfl) ?_
 obtain ⟨x3, f, hm⟩ := Qc hm
 refine qv rfl (Tq (a := a2) (b := p0.Word) rfl rfl f) ?_
 obtain ⟨x4, g, hm⟩ := Qc hm
 refine qv rfl (Hm (a := x3) (b := 4) rfl rfl g)<|qm rfl<|qv rfl (Qh1 Tg rfl)<|qv rfl (Jr (a := x4) (b := Xf p2) rfl rfl)<|Qa<|Zu rfl (fun c2 => ?_) (fun c2 => ?_)
 · replace hm := iF c2 hm
   refine Vi<|Xy<|Xl<|qg 3 rfl<|qm rfl<|qv rfl (Zg (k := .i64) (a := a2) (b := 1) rfl rfl)<|qm rfl<|Qh ?_
   have K_7 : Kz [] w1 w2 := K2
   subst d
   exact ⟨rfl, ⟨n1, Qi (a2 + 1)⟩, Qf, ⟨hm, K_7⟩, Nat.lt_succ_self _⟩
 replace hm := iT c2 hm
 refine qs 5 rfl<|qm rfl<|qv rfl (Qb Hv rfl)<|qv rfl (Qd (v := .int .i64 p0.Word) Qv rfl B5 rfl) ?_
 obtain ⟨x5, h, hm⟩ := Qc hm
 refine qv rfl (Tq (a := a2) (b := p0.Word) rfl rfl h)<|qm rfl<|Qa<|Qo<|Zz<|Zf<|Zf<|Zz<|Zf ?_
 have X6 := (X3.kz K2)
 cases hm
 refine ⟨_, _, rfl, Qt rfl (Qg rfl), ?_⟩
 exact ⟨rfl, X6⟩
theorem Xfi {p0 p1 r} (hm : Qgm p0 p1 = some r) {w : World} :
    Calls Tryz.prog 115 [kv p0, .int .i64 p1].toArray w fun e w' => ∃ v, e = .returned v ∧ (v = kv r ∧ Gr w w') := by
 unfold Qgm at hm
 refine Xe 9 Tryz.func115 rfl rfl rfl<|qs 2 rfl<|qe rfl (Qy (cs := kb p0) rfl rfl) ?_
 rintro _ w1 ⟨b1, rfl, d, a, G1⟩
 have g := a.lt
 refine qe rfl (Xh (cs := kb k0) Zh rfl) ?_
 rintro _ w2 ⟨b2, rfl, f, b, G2⟩
 refine qd 5 rfl ?_
 have B5 := (a.gr G2)
 refine qv rfl (Qp Ql rfl B5 rfl)<|qm rfl<|qv rfl (Yb Ye rfl)<|qe rfl (eC Dt rfl (Td p0 (Xf 51#8) (Vy _) (Vx _) (wd p1) _)) ?_
 rintro _ w3 ⟨rfl, G3⟩
 have B7 := (b.gr G3)
 refine qe rfl (Qx Ql rfl rfl rfl B7 rfl rfl) ?_
 rintro _ w4 ⟨c, M4⟩
 refine Qa<|Qo ?_
 have X9 := (((((Gr.refl w).trans G1).trans G2).trans G3).md M4)
 cases hm
 refine ⟨_, _, rfl, Qt rfl (Xr Ql rfl c rfl), ?_⟩
 exact ⟨rfl, X9⟩
theorem Qnm {p0 p1 p2 r} (hm : Qfp p0 p1 p2 = some r) {w : World} :
    Calls Tryz.prog 185 [bv p0, wv p1, wv p2].toArray w fun e w' => ∃ v, e = .returned v ∧ (v = kv r ∧ Gr w w') := by
 unfold Qfp at hm
 refine Xe 18 Tryz.func185 rfl rfl rfl<|qs 1 rfl<|qe rfl (Xh (cs := kb k0) Zh rfl) ?_
 rintro _ w1 ⟨b1, rfl, L, f, G1⟩
 have N := f.lt
 refine qd 6 rfl<|qm rfl<|qe rfl (Ve [p0] Xq Gq rfl rfl (Kx rfl) rfl rfl rfl) ?_
 rintro O w2 ⟨g, M, y, G2⟩
 have z3 := G2.size
 refine qm rfl ?_
 obtain ⟨x1, z, hm⟩ := Qc hm
 refine qe rfl (eC Fh rfl (Qj4 z)) ?_
 rintro h w3 ⟨_, i, j, rfl, a, k, G3⟩
 have z5 := G3.size
 have B7 := (y.gr G3)
 obtain ⟨l2, B, hm⟩ := Qc hm
 refine qe rfl (Vl (l := [p0]) (m := x1) (c := Xq) Wf rfl rfl B7 (Qn.rd a) B (by decide)) ?_
 rintro P w4 ⟨Q, R, C, n, S, o⟩
 refine qm rfl<|qd 6 rfl<|qm rfl<|qm rfl ?_
 obtain ⟨x3, D, hm⟩ := Qc hm
 refine qe rfl (eC Fh rfl (Qj4 D)) ?_
 rintro p w5 ⟨_, q, s, rfl, d, t, G5⟩
 have E := (C.gr G5)
 obtain ⟨l4, F, hm⟩ := Qc hm
 refine qe rfl (Vl (l := l2) (m := x3) (c := Xq) Wf rfl rfl E (Qn.rd d) F (by decide)) ?_
 rintro T w6 ⟨U, V, G, u, W, X⟩
 obtain ⟨x5, H, hm⟩ := Qc hm
 refine qe rfl (eC Qam rfl (Qno H (Qn.rd G))) ?_
 rintro _ w7 ⟨rfl, G7⟩
 have I := ((((((f.gr G2).gr G3).ka n (Qk ((.inr Qj) : 1 = 0 ∨ g ≠ b1))).gr G5).ka u (Qk (Hl (b := b1) o (.inr Qj)))).gr G7)
 refine qe rfl (Qx Ql rfl rfl rfl I rfl rfl) ?_
 rintro _ w8 ⟨J, M8⟩
 refine Qa<|Qo ?_
 have K := (((((((((Gr.refl w).trans G1).trans G2).trans G3).ka n (Qk ((.inr Qj) : 1 = 0 ∨ w.heap.size ≤ g))).trans G5).ka u (Qk (Jg (A := (fun x => w.heap.size ≤ x)) o (.inr Qj)))).trans G7).md M8)
 cases hm
 refine ⟨_, _, rfl, Qt rfl (Xr Ql rfl J rfl), ?_⟩
 exact ⟨rfl, K⟩
theorem Xeh {p0 p1 p2 vp2 zp2 gp2 op2 r} (hm : Qj5 p0 p1 p2 = some r) {w : World} (M : Rd w zp2 gp2 op2 1 vp2 (p2.map Xq)) :
    Calls Tryz.prog 191 [kv p0, wv p1, vp2].toArray w fun e w' => ∃ v, e = .returned v ∧ (∃ ur0_s zr0_s gr0_s, v = .tuple [ur0_s, .int .i64 r.2].toArray ∧ Qn w' zr0_s gr0_s 5 1 ur0_s (r.1.map Xq) ∧ Zm (zr0_s = 0 ∨ w.heap.size ≤ gr0_s) ∧ Gr w w') := by
 have aG := M.lth
 unfold Qj5 at hm
 refine Xe 51 Tryz.func191 rfl rfl rfl<|qs 3 rfl<|qe rfl (Qy (cs := kb p0) rfl rfl) ?_
 rintro _ w1 ⟨b1, rfl, bq, N, G1⟩
 have bu := N.lt
 refine qm rfl<|qm rfl<|Qa<|Qe<|qs 3 rfl<|qm rfl ?_
 have B4 := (M.gr G1)
 refine qv rfl (Zo (l := p2) (c := Xq) Tryz.underlying32 rfl B4)<|qv rfl (Va (a := (p2.length : Int)) (b := 16384) rfl rfl)<|Qa<|Xj rfl (fun c1 => ?_) (fun c1 => ?_)
 · replace hm := iT c1 hm
   refine qs 2 rfl<|qm rfl<|qm rfl<|qb ?_
   have X5 := ((Gr.refl w).trans G1)
   cases hm
   refine ⟨_, _, rfl, Zb rfl (Qg rfl) (Qg rfl), ?_⟩
   exact ⟨(.slice none 0 0), 0, 0, rfl, (Ji _ 0 5 1), ⟨.inl rfl⟩, X5⟩
 replace hm := iF c1 hm
 refine qu<|qs 1 rfl<|qm rfl<|Qa<|Qe<|qs 1 rfl<|qm rfl<|Qa<|Xi ?_
 have X6 := ((Gr.refl w).trans G1)
 refine Zq (α := Nat × List (BitVec 8) × Int × Value × Nat × Nat) ([8, 9, 10, 11] ++ rg 15 35) (fun ⟨n1, a4, a6, vy5, zy5, gy5⟩ => [(8, vy5), (9, .int .i64 a6)]) (fun ⟨n1, a4, a6, vy5, zy5, gy5⟩ wr => (Qr (Au p0 p1 p2) n1 (a4, a6) = some r) ∧ Qn wr zy5 gy5 5 1 vy5 (a4.map Xq) ∧ Zm (zy5 = 0 ∨ w1.heap.size ≤ gy5) ∧ Kz [] w1 wr) (fun ⟨n1, a4, a6, vy5, zy5, gy5⟩ => n1) ⟨Xb, [], 0, (.slice none 0 0), 0, 0⟩ ?_ ?_ ?_
 · exact Qf
 · exact ⟨hm, (Ji _ 0 5 1), ⟨(.inl rfl)⟩, Kz.refl _ _⟩
 clear hm; rintro ⟨n1, a4, a6, vy5, zy5, gy5⟩ w2 ⟨hm, h, f, K2⟩
 have z7 := K2.size
 have aH := h.lth
 have hb := Zx hm; clear hm; obtain ⟨n1, rfl, hm⟩ := hb
 generalize C : Qr (Au p0 p1 p2) n1 = n at hm
 unfold Au at hm
 try dsimp only at hm
 refine Qe<|qs 4 rfl<|qm rfl<|qm rfl ?_
 have B9 := (B4.kz K2)
 obtain ⟨x7, aI, hm⟩ := Qc hm
 refine qe rfl (eC Qq7 rfl (Qtt aI B9)) ?_
 rintro _ w3 ⟨rfl, G3⟩
 have bx := G3.size
 refine qv rfl (Zc (a := a6) (b := x7) rfl rfl)<|Qa<|Zu rfl (fun c2 => ?_) (fun c2 => ?_)
 · replace hm := iF c2 hm
   refine Zl<|Xk<|Xk<|Zk<|Xl<|qs 3 rfl<|qm rfl<|qm rfl<|qm rfl<|Qa<|Qo ?_
   have aJ := (h.gr G3)
   have aK := ((X6.kz K2).trans G3)
   cases hm
   refine ⟨_, _, rfl, Zb rfl (Qg rfl) (Qg rfl), ?_⟩
   exact ⟨vy5, zy5, gy5, rfl, aJ, ⟨(Jf (A := (fun x => w.heap.size ≤ x)) f)⟩, aK⟩
 replace hm := iT c2 hm
 refine qu<|Qe<|Xi ?_
 have aL := ((X6.kz K2).trans G3)
 refine qj (β := W2 × Nat) ([10] ++ rg 21 10) (fun ⟨a9, bq8⟩ => [(10, .pointer (some ⟨bq8, 0, none⟩))]) (fun ⟨a9, bq8⟩ wr => (Qfs p2 a4 a6 n a9 = some r) ∧ Bx wr bq8 23 (kb a9) ∧ w3.heap.size ≤ bq8 ∧ Kz [] w3 wr) ?_ ?_
 · refine dw [([])] [] (.fork [(0,10),(1,10),(3,10),(4,10),(5,10),(6,10)] (.fork [(2,0)] (.fork [(7,0)] (.fork [(8,0)] (.leaf [(9,0),(10,0),(11,0)]) (.leaf [(10,0),(9,0),(11,0)])) (.leaf [(10,0),(8,0),(9,0),(11,0)])) (.leaf [(10,0),(7,0),(8,0),(9,0),(11,0)])) (.leaf [(10,0),(2,0),(7,0),(8,0),(9,0),(11,0)])) ?_
   intro w9 G9 bz
   refine Pb<|dm 0 rfl rfl<|dm 0 rfl rfl ?_
   have aM := (((N.kz K2).gr G3).gr G9)
   refine dh 0 rfl rfl (fun w hS => Qp Ql rfl (Bx.kp aM hS) rfl)<|dm 0 rfl rfl<|dh 0 rfl rfl (fun w hS => Yb Ye rfl)<|dm 0 rfl rfl<|Hz ?_ ?_
   · refine Pb ?_
     have aN := ((B9.gr G3).gr G9)
     obtain ⟨bA, O, hm⟩ := Qc hm
     refine qz [] rfl (eC Qlm rfl (Qnp O aN)) ⟨fun _ => Qj, trivial⟩ ?_
     rintro _ bB ⟨rfl, q⟩
     have bC := q.size
     refine kG q<|Hz ?_ ?_
     · refine Pb ?_
       obtain ⟨P, Q, hm⟩ := Qc hm
       refine qz [] rfl (eC Qe1 rfl (Qnm Q)) ⟨fun _ => Qj, trivial⟩ ?_
       rintro _ bD ⟨rfl, s⟩
       have bE := s.size
       refine kG s<|Hz ?_ ?_
       · refine Pb<|qz [] rfl (eC Eh rfl (Qct p0 P _)) ⟨fun _ => Qj, trivial⟩ ?_
         rintro _ bF ⟨rfl, y⟩
         have bG := y.size
         refine kG y<|Hz ?_ ?_
         · refine Zj ?_
           obtain ⟨aO, R, hm⟩ := Qc hm
           refine qz [] rfl (eC Qak rfl (Qc2 R)) ⟨fun _ => Qj, trivial⟩ ?_
           rintro _ bH ⟨rfl, D⟩
           have bI := D.size
           refine kG D<|qz [] rfl (Xh (cs := kb k0) Zh rfl) ⟨fun _ => Qj, trivial⟩ ?_
           rintro _ bJ ⟨S, rfl, aP, T, U⟩
           refine kG U<|qz [(1, S)] rfl (Qx Ql rfl rfl rfl T rfl rfl) ⟨fun _ => Qj, trivial⟩ ?_
           rintro _ bK ⟨V, W⟩
           refine kM W<|Qh ?_
           exact ⟨rfl, ⟨aO, S⟩, Qf, hm, V, (by omega), (((((((Qz.gr G9).gr q).gr s).gr y).gr D).gr U).md W)⟩
         refine Zj<|qz [] rfl (Xh (cs := kb k0) Zh rfl) ⟨fun _ => Qj, trivial⟩ ?_
         rintro _ bL ⟨X, rfl, aQ, Y, Z⟩
         refine kG Z ?_
         obtain ⟨aR, aa, hm⟩ := Qc hm
         refine qz [] rfl (eC Qak rfl (Qc2 aa)) ⟨fun _ => Qj, trivial⟩ ?_
         rintro _ bM ⟨rfl, E⟩
         refine kG E ?_
         have aS := (Y.gr E)
         refine qz [(1, X)] rfl (Qx Ql rfl rfl rfl aS rfl rfl) ⟨fun _ => Qj, trivial⟩ ?_
         rintro _ bN ⟨ab, ac⟩
         refine kM ac<|Qh ?_
         exact ⟨rfl, ⟨aR, X⟩, Qf, hm, ab, (by omega), (((((((Qz.gr G9).gr q).gr s).gr y).gr Z).gr E).md ac)⟩
       refine Zj<|qz [] rfl (Xh (cs := kb k0) Zh rfl) ⟨fun _ => Qj, trivial⟩ ?_
       rintro _ bO ⟨ad, rfl, aT, ae, af⟩
       refine kG af<|qz [] rfl (eC Eh rfl (Qct p0 P _)) ⟨fun _ => Qj, trivial⟩ ?_
       rintro _ bP ⟨rfl, F⟩
       refine kG F ?_
       obtain ⟨aU, ag, hm⟩ := Qc hm
       refine qz [] rfl (eC Qak rfl (Qc2 ag)) ⟨fun _ => Qj, trivial⟩ ?_
       rintro _ bQ ⟨rfl, G⟩
       refine kG G ?_
       have aV := ((ae.gr F).gr G)
       refine qz [(1, ad)] rfl (Qx Ql rfl rfl rfl aV rfl rfl) ⟨fun _ => Qj, trivial⟩ ?_
       rintro _ bR ⟨ah, ai⟩
       refine kM ai<|Qh ?_
       exact ⟨rfl, ⟨aU, ad⟩, Qf, hm, ah, (by omega), (((((((Qz.gr G9).gr q).gr s).gr af).gr F).gr G).md ai)⟩
     refine Zj<|qz [] rfl (Xh (cs := kb k0) Zh rfl) ⟨fun _ => Qj, trivial⟩ ?_
     rintro _ bS ⟨aj, rfl, aW, ak, al⟩
     refine kG al ?_
     obtain ⟨aX, am, hm⟩ := Qc hm
     refine qz [] rfl (eC Qe1 rfl (Qnm am)) ⟨fun _ => Qj, trivial⟩ ?_
     rintro _ bT ⟨rfl, H⟩
     refine kG H<|qz [] rfl (eC Eh rfl (Qct p0 aX _)) ⟨fun _ => Qj, trivial⟩ ?_
     rintro _ bU ⟨rfl, I⟩
     refine kG I ?_
     obtain ⟨aY, an, hm⟩ := Qc hm
     refine qz [] rfl (eC Qak rfl (Qc2 an)) ⟨fun _ => Qj, trivial⟩ ?_
     rintro _ bV ⟨rfl, J⟩
     refine kG J ?_
     have aZ := (((ak.gr H).gr I).gr J)
     refine qz [(1, aj)] rfl (Qx Ql rfl rfl rfl aZ rfl rfl) ⟨fun _ => Qj, trivial⟩ ?_
     rintro _ bW ⟨ao, ap⟩
     refine kM ap<|Qh ?_
     exact ⟨rfl, ⟨aY, aj⟩, Qf, hm, ao, (by omega), (((((((Qz.gr G9).gr q).gr al).gr H).gr I).gr J).md ap)⟩
   refine Zj<|qz [] rfl (Xh (cs := kb k0) Zh rfl) ⟨fun _ => Qj, trivial⟩ ?_
   rintro _ bX ⟨aq, rfl, a0, ar, K⟩
   refine kG K ?_
   have a1 := (((B9.gr G3).gr G9).gr K)
   obtain ⟨bY, au, hm⟩ := Qc hm
   refine qz [] rfl (eC Qlm rfl (Qnp au a1)) ⟨fun _ => Qj, trivial⟩ ?_
   rintro _ bZ ⟨rfl, av⟩
   refine kG av ?_
   obtain ⟨a2, aw, hm⟩ := Qc hm
   refine qz [] rfl (eC Qe1 rfl (Qnm aw)) ⟨fun _ => Qj, trivial⟩ ?_
   rintro _ b0 ⟨rfl, ax⟩
   refine kG ax<|qz [] rfl (eC Eh rfl (Qct p0 a2 _)) ⟨fun _ => Qj, trivial⟩ ?_
   rintro _ b2 ⟨rfl, ay⟩
   refine kG ay ?_
   obtain ⟨a3, az, hm⟩ := Qc hm
   refine qz [] rfl (eC Qak rfl (Qc2 az)) ⟨fun _ => Qj, trivial⟩ ?_
   rintro _ b3 ⟨rfl, aA⟩
   refine kG aA ?_
   have Y1 := Gr.trans (Gr.trans (Gr.trans av ax) ay) aA
   have a5 := (ar.gr Y1)
   refine qz [(1, aq)] rfl (Qx Ql rfl rfl rfl a5 rfl rfl) ⟨fun _ => Qj, trivial⟩ ?_
   rintro _ b4 ⟨aB, aC⟩
   refine kM aC<|Qh ?_
   exact ⟨rfl, ⟨a3, aq⟩, Qf, hm, aB, (by omega), ((((Qz.gr G9).gr K).gr Y1).md aC)⟩
 clear hm; rintro ⟨a9, bq8⟩ w4 ⟨hm, t, a7, K4⟩
 have br := t.lt
 unfold Qfs at hm
 refine qs 1 rfl<|qm rfl<|Qa<|Xi ?_
 have b5 := (aL.kz K4)
 have a8 := ((B9.gr G3).kz K4)
 have ba := ((h.gr G3).kz K4)
 refine Zq (α := Nat × List (BitVec 8) × Int × Value × Nat × Nat) ([8, 11] ++ rg 31 19) (fun ⟨n3, g, d, vy14, zy14, gy14⟩ => [(8, vy14), (11, .int .i64 d)]) (fun ⟨n3, g, d, vy14, zy14, gy14⟩ wr => (Qr (Qbx p2 a6 n a9) n3 (g, d) = some r) ∧ Qn wr zy14 gy14 5 1 vy14 (g.map Xq) ∧ Zm (zy14 = 0 ∨ (gy14 = gy5 ∧ zy5 ≠ 0) ∨ w4.heap.size ≤ gy14) ∧ Kz [(zy5, gy5)] w4 wr) (fun ⟨n3, g, d, vy14, zy14, gy14⟩ => n3) ⟨Xb, a4, 0, vy5, zy5, gy5⟩ ?_ ?_ ?_
 · exact Qf
 · exact ⟨hm, ba, ⟨Qj⟩, Kz.refl _ _⟩
 clear hm; rintro ⟨n3, g, d, vy14, zy14, gy14⟩ w5 ⟨hm, u, j, K5⟩
 have b6 := K5.size
 have hb := Zx hm; clear hm; obtain ⟨n3, rfl, hm⟩ := hb
 generalize L : Qr (Qbx p2 a6 n a9) n3 = aD at hm
 unfold Qbx at hm
 try dsimp only at hm
 refine Qe ?_
 refine qj (β := Bool) (rg 31 11) (fun z => [(41, .bool z)]) (fun z wr => (Ar a6 n a9 g d aD z = some r) ∧ Kz [] w5 wr) ?_ ?_
 · refine qg 11 rfl<|qm rfl<|qv rfl (Zc (a := d) (b := 16) rfl rfl)<|Jh rfl (Qm rfl) (fun c4 => ?_) (fun c4 => ?_)
   · replace hm := iF c4 hm
     refine qk rfl<|qk rfl<|qk rfl<|qk rfl<|qk rfl<|qk rfl<|qk rfl<|qm rfl<|Qh ?_
     exact ⟨rfl, false, Qf, hm, Qz⟩
   replace hm := iT c4 hm
   refine qm rfl<|qv rfl (Wa (k := .i64) (a := 16) (b := a6) rfl rfl)<|qm rfl<|qv rfl (Zg (k := .i64) (a := Qi (16 * a6)) (b := d) rfl rfl)<|qm rfl ?_
   have bb := (a8.kz K5 (Qk ((Jl (Jf (A := (fun x => zp2 = 0 ∨ x ≠ gp2)) f (fun x hx => (Qk aG.o)))) : zp2 = 0 ∨ zy5 = 0 ∨ gp2 ≠ gy5)))
   refine qv rfl (Zo (l := p2) (c := Xq) Tryz.underlying32 rfl bb)<|qv rfl (Zc (a := Qi ((Qi (16 * a6)) + d)) (b := (p2.length : Int)) rfl rfl)<|qm rfl<|Qh ?_
   exact ⟨rfl, (decide (Qi ((Qi (16 * a6)) + d) < (p2.length : Int))), Qf, hm, Qz⟩
 clear hm; rintro z w6 ⟨hm, K6⟩
 have b7 := K6.size
 unfold Ar at hm
 refine Zu rfl (fun c3 => ?_) (fun c3 => ?_)
 · replace hm := Xw c3 hm
   refine Zl<|Xk<|Xk<|Zk<|Xy<|Xl<|qg 3 rfl<|qm rfl<|qv rfl (Zg (k := .i64) (a := a6) (b := 1) rfl rfl)<|qm rfl<|Qh ?_
   have K_27 : Kz [] w1 w6 := ((((K2.gr G3).kz K4).kz K5 (Qk (Jf (A := (fun x => w1.heap.size ≤ x)) f))).kz K6)
   have bd := (u.kz K6)
   subst C
   exact ⟨rfl, ⟨n1, g, Qi (a6 + 1), vy14, zy14, gy14⟩, Qf, ⟨hm, bd, ⟨(Xc (A := (fun x => w1.heap.size ≤ x)) j (Jf (A := (fun x => w1.heap.size ≤ x)) f))⟩, K_27⟩, Nat.lt_succ_self _⟩
 replace hm := Xx c3 hm
 refine qu<|Qe<|Xi<|qg 7 rfl<|qm rfl<|qm rfl ?_
 obtain ⟨aE, B, hm⟩ := Qc hm
 refine qv rfl (Gj (i := d) (p := a9) Tryz.underlying23 (Xs).siz rfl rfl B) ?_
 have bf := ((t.kz K5 (Qk (Xd (b := bq8) aH))).kz K6)
 refine qv rfl (Mu (off := 0) (p := a9) (i := d) Xs rfl bf rfl B (by omega))<|qe rfl (Ve [aE] Xq Gq rfl rfl (Kx rfl) rfl rfl rfl) ?_
 rintro b8 w7 ⟨b9, bs, bg, G7⟩
 have ca := G7.size
 have bh := ((u.kz K6).gr G7)
 obtain ⟨bi, aF, hm⟩ := Qc hm
 refine qe rfl (Vl (l := g) (m := [aE]) (c := Xq) Wf rfl rfl bh (Qn.rd bg) aF (by decide)) ?_
 rintro bj w8 ⟨bk, bl, bm, bo, cb, bp⟩
 refine qm rfl<|Qh<|Xy<|Xl<|qg 3 rfl<|qm rfl<|qv rfl (Zg (k := .i64) (a := d) (b := 1) rfl rfl)<|qm rfl<|Qh ?_
 have K_26 : Kz [(zy5, gy5)] w4 w8 := (((K5.kz K6).gr G7).ka bo (Qk (Xc (A := (fun x => (x = gy5 ∧ zy5 ≠ 0) ∨ w4.heap.size ≤ x)) j Qj)))
 subst L
 exact ⟨rfl, ⟨n3, bi, Qi (d + 1), bj, bk, bl⟩, Qf, ⟨hm, bm, ⟨(Jg (A := (fun x => (x = gy5 ∧ zy5 ≠ 0) ∨ w4.heap.size ≤ x)) bp (Xc (A := (fun x => (x = gy5 ∧ zy5 ≠ 0) ∨ w4.heap.size ≤ x)) j Qj))⟩, K_26⟩, Nat.lt_succ_self _⟩
theorem Xfl {p0 p1 p2 vp2 zp2 gp2 op2 r} (hm : Qgp p0 p1 p2 = some r) {w : World} (h : Rd w zp2 gp2 op2 1 vp2 (p2.map Xq)) :
    Calls Tryz.prog 116 [kv p0, wv p1, vp2].toArray w fun e w' => ∃ v, e = .returned v ∧ (∃ ur0_s zr0_s gr0_s, v = ur0_s ∧ Qn w' zr0_s gr0_s 5 1 ur0_s (r.map Xq) ∧ Zm (zr0_s = 0 ∨ w.heap.size ≤ gr0_s) ∧ Gr w w') := by
 unfold Qgp at hm
 refine Xe 17 Tryz.func116 rfl rfl rfl<|qs 2 rfl<|qe rfl (Qy (cs := kb p0) rfl rfl) ?_
 rintro _ w1 ⟨b1, rfl, j, g, G1⟩
 have k := g.lt
 refine qm rfl<|qd 9 rfl<|qv rfl (Qp Ql rfl g rfl)<|qm rfl<|qm rfl ?_
 have B4 := (h.gr G1)
 obtain ⟨x1, i, hm⟩ := Qc hm
 refine qe rfl (eC Qye rfl (Xeh i B4)) ?_
 rintro _ w2 ⟨a, b, c, rfl, d, f, G2⟩
 refine qm rfl<|qm rfl<|qm rfl<|qm rfl<|qm rfl<|qd 2 rfl<|qm rfl<|qm rfl<|Qa<|Qo ?_
 have X7 := (((Gr.refl w).trans G1).trans G2)
 cases hm
 refine ⟨_, _, rfl, Qt rfl (Qg rfl), ?_⟩
 exact ⟨a, b, c, rfl, d, ⟨(Jf (A := (fun x => w.heap.size ≤ x)) f)⟩, X7⟩
theorem Xf9 {p0 p1 p2 p3 vp1_1 zp1_1 gp1_1 op1_1 vp2_2 zp2_2 gp2_2 op2_2 vp2_4 zp2_4 gp2_4 op2_4 vp2_39 zp2_39 gp2_39 op2_39 r} (hm : Qge p0 p1 p2 p3 = some r) {w : World} (Y : Rd w zp1_1 gp1_1 op1_1 18 vp1_1 (p1.Secret.Labels.map Xn.cs)) (t : Rd w zp2_2 gp2_2 op2_2 18 vp2_2 (p2.Head.Items.map Zd.cs)) (u : Rd w zp2_4 gp2_4 op2_4 2 vp2_4 (p2.Head.Points.map Qu.cs)) (f : Rd w zp2_39 gp2_39 op2_39 1 vp2_39 (p2.Data.map Xq)) :
    Calls Tryz.prog 67 [.agg (Za.cs p0).toArray, .agg (Qw.cs p1 vp1_1).toArray, .agg (Ze.cs p2 vp2_2 vp2_4 vp2_39).toArray, .int .i64 p3].toArray w fun e w' => ∃ v, e = .returned v ∧ (∃ ur0_s zr0_s gr0_s, v = .tuple [ur0_s, .int .i64 r.2].toArray ∧ Qn w' zr0_s gr0_s 5 1 ur0_s (r.1.map Xq) ∧ Zm (zr0_s = 0 ∨ w.heap.size ≤ gr0_s) ∧ Gr w w') := by
 have J := t.lth
 have K := u.lth
 have L := f.lth
 unfold Qge at hm
 refine Xe 62 Tryz.func67 rfl rfl rfl<|qs 5 rfl<|qe rfl (Qy (cs := Za.cs p0) rfl rfl) ?_
 rintro _ w1 ⟨b1, rfl, av, M, G1⟩
 have aE := M.lt
 refine qe rfl (Qy (cs := Qw.cs p1 vp1_1) rfl rfl) ?_
 rintro _ w2 ⟨b2, rfl, aw, N, G2⟩
 have aF := N.lt
 refine qe rfl (Qy (cs := Ze.cs p2 vp2_2 vp2_4 vp2_39) rfl rfl) ?_
 rintro _ w3 ⟨b3, rfl, ax, y, G3⟩
 have ay := y.lt
 refine qm rfl<|qm rfl<|qd 9 rfl ?_
 have Y1 := Gr.trans G2 G3
 have O := (M.gr Y1)
 refine qv rfl (Qp Yt rfl O rfl)<|qm rfl<|qv rfl (Qb Nb rfl) ?_
 have P := (N.gr G3)
 refine qv rfl (Qd (v := .int .i64 p1.Ahead) Qv rfl P rfl)<|qv rfl (Zg (k := .i64) (a := p3) (b := p1.Ahead) rfl rfl)<|qv rfl (Qb Ca rfl)<|qv rfl (Qd (v := bv p2.Low) Xs rfl y rfl) ?_
 obtain ⟨x1, Z, hm⟩ := Qc hm
 refine qe rfl (eC Qy2 rfl (Xfa Z)) ?_
 rintro _ w4 ⟨rfl, G4⟩
 have aG := G4.size
 refine qm rfl<|Qa<|Qe<|qs 2 rfl<|qm rfl<|qv rfl (Zc (a := x1) (b := 0) rfl rfl)<|Qa<|Xj rfl (fun c1 => ?_) (fun c1 => ?_)
 · replace hm := iT c1 hm
   refine qs 2 rfl<|qm rfl<|qm rfl<|qb ?_
   have Y2 := Gr.trans (Gr.trans G1 Y1) G4
   have aa := ((Gr.refl w).trans Y2)
   cases hm
   refine ⟨_, _, rfl, Zb rfl (Qg rfl) (Qg rfl), ?_⟩
   exact ⟨(.slice none 0 0), 0, 0, rfl, (Ji _ 0 5 1), ⟨.inl rfl⟩, aa⟩
 replace hm := iF c1 hm
 refine qu<|qs 8 rfl<|qm rfl<|qv rfl (Qb Hv rfl) ?_
 have Q := (O.gr G4)
 refine qv rfl (Qd (v := .int .i64 p0.Word) Qv rfl Q rfl)<|qv rfl (Wa (k := .i64) (a := x1) (b := p0.Word) rfl rfl)<|qv rfl (Qb Dx rfl)<|qv rfl (Qd (v := .int .i64 p0.Epoch) Qv rfl Q rfl) ?_
 obtain ⟨x2, ab, hm⟩ := Qc hm
 refine qv rfl (Tq (a := Qi (x1 * p0.Word)) (b := p0.Epoch) rfl rfl ab)<|qm rfl<|qd 7 rfl<|qm rfl ?_
 obtain ⟨x3, ac, hm⟩ := Qc hm
 refine qv rfl (Hm (a := x2) (b := 2) rfl rfl ac)<|qv rfl (Qb Sa rfl) ?_
 obtain ⟨y4, R, hm⟩ := Qc hm
 refine qv rfl (Qh5 (l := [p1.Slots.a0, p1.Slots.a1]) (i := x3) Tryz.underlying55 (Yu).siz rfl rfl R rfl) ?_
 have ad := (P.gr G4)
 refine qv rfl (Hc Yu rfl (Rl (o := 5) (sz := 18) (xs := [p1.Slots.a0, p1.Slots.a1].map Xg.cs) (m := 2) (cap := 2) ad (Wb _ (fun _ => rfl) (fun _ => rfl)) rfl rfl) R (by first | rfl | omega))<|qe rfl (Xh (cs := Xg.cs (Xg.mk false 0 k0)) Qhd rfl) ?_
 rintro _ w5 ⟨b5, rfl, az, S, G5⟩
 have aA := S.lt
 refine qe rfl (Qx Yu rfl rfl rfl S rfl rfl) ?_
 rintro _ w6 ⟨z, M6⟩
 have aH := M6.size
 refine Qa<|Qe ?_
 have Y3 := Gr.trans (Gr.trans (Gr.trans G1 Y1) G4) G5
 have B := (((Gr.refl w).trans Y3).md M6)
 refine qj (β := Bool) (rg 36 9) (fun a5 => [(44, .bool a5)]) (fun a5 wr => (Qcm p2 x1 y4 a5 = some r) ∧ Kz [] w6 wr) ?_ ?_
 · refine qg 9 rfl<|qv rfl (Qb Cc rfl)<|qv rfl (Qd (v := .bool y4.Full) Sg rfl z rfl)<|qv rfl (Jb rfl)<|qp rfl (Qm rfl) (fun c4 => ?_) (fun c4 => ?_)
   · replace hm := Xx c4 hm
     refine qk rfl<|qk rfl<|qk rfl<|qk rfl<|qm rfl<|Qh ?_
     exact ⟨rfl, true, Qf, hm, Qz⟩
   replace hm := Xw c4 hm
   refine qv rfl (Qb Cd rfl)<|qv rfl (Qd (v := .int .i64 y4.Epoch) Qv rfl z rfl)<|qm rfl<|qv rfl (Jw (a := y4.Epoch) (b := x2) rfl rfl)<|qm rfl<|Qh ?_
   exact ⟨rfl, (decide (y4.Epoch ≠ x2)), Qf, hm, Qz⟩
 clear hm; rintro a5 w7 ⟨hm, K7⟩
 have aI := K7.size
 unfold Qcm at hm
 refine Xj rfl (fun c2 => ?_) (fun c2 => ?_)
 · replace hm := Xx c2 hm
   refine qs 2 rfl<|qm rfl<|qm rfl<|qb ?_
   have ae := (B.kz K7)
   cases hm
   refine ⟨_, _, rfl, Zb rfl (Qg rfl) (Qg rfl), ?_⟩
   exact ⟨(.slice none 0 0), 0, 0, rfl, (Ji _ 0 5 1), ⟨.inl rfl⟩, ae⟩
 replace hm := Xw c2 hm
 refine qu<|qs 6 rfl<|qv rfl (Qb Qrj rfl) ?_
 have af := (z.kz K7)
 refine qv rfl (Zy (vs := kb y4.Key) Ql rfl af rfl rfl)<|qm rfl ?_
 obtain ⟨x6, ag, hm⟩ := Qc hm
 refine qe rfl (eC Qxt rfl (Xfi ag)) ?_
 rintro _ w8 ⟨rfl, G8⟩
 have aJ := G8.size
 refine qe rfl (Xh (cs := kb k0) Zh rfl) ?_
 rintro _ w9 ⟨b9, rfl, aB, T, G9⟩
 have aC := T.lt
 refine qe rfl (Qx Ql rfl rfl rfl T rfl rfl) ?_
 rintro _ aK ⟨U, c⟩
 have aL := c.size
 refine Qa<|Qe<|Qe<|dw [([])] [] (.leaf [(0,10),(1,10),(4,10),(5,10),(2,0),(3,0),(6,10)]) ?_
 intro ah d aD
 refine Zj ?_
 have V := (U.gr d)
 refine dh 0 rfl rfl (fun w hS => Qp Ql rfl (Bx.kp V hS) rfl) ?_
 have Y4 := Gr.trans G4 G5
 have Y5 := Gr.trans G8 G9
 have C := ((((((y.gr Y4).md M6).kz K7).gr Y5).md c).gr d)
 refine dh 0 rfl rfl (fun w hS => Qp Dm rfl (Bx.kp C hS) rfl)<|dh 0 rfl rfl (fun w hS => Qb Qie rfl)<|dh 0 rfl rfl (fun w hS => Zy (vs := kb p2.Mac) Ql rfl (Bx.kp C hS) rfl rfl) ?_
 have ai := ((((((t.gr Y3).md M6 (Xd J)).kz K7).gr Y5).md c (Xd J)).gr d)
 have aj := ((((((u.gr Y3).md M6 (Xd K)).kz K7).gr Y5).md c (Xd K)).gr d)
 have W := ((((((f.gr Y3).md M6 (Xd L)).kz K7).gr Y5).md c (Xd L)).gr d)
 obtain ⟨x7, ak, hm⟩ := Qc hm
 refine qz [] rfl (eC Qq2 rfl (Qu4 ak ai aj W)) ⟨fun _ => Qj, trivial⟩ ?_
 rintro F aM ⟨_, G, H, rfl, g, I, D⟩
 have aN := D.size
 refine kG D ?_
 obtain ⟨x8, al, hm⟩ := Qc hm
 refine qz [] rfl (eC Qq1 rfl (Qts al (Qn.rd g))) ⟨fun _ => Qj, trivial⟩ ?_
 rintro _ aO ⟨rfl, E⟩
 have aP := E.size
 refine kG E ?_
 have Y6 := Gr.trans D E
 have am := ((Kp.refl ([]) ah).gr Y6)
 refine qh 0 rfl rfl am (fun w hS => Gk (cf := kb) (a := x8) (b := p2.Mac) Dw rfl rfl rfl rfl (fun h => Hq h))<|Qa<|Xj rfl (fun c3 => ?_) (fun c3 => ?_)
 · replace hm := iT c3 hm
   refine qs 2 rfl<|qm rfl<|qm rfl<|qb ?_
   have an := (((((B.kz K7).trans Y5).md c).trans d).trans Y6)
   cases hm
   refine ⟨_, _, rfl, Zb rfl (Qg rfl) (Qg rfl), ?_⟩
   exact ⟨(.slice none 0 0), 0, 0, rfl, (Ji _ 0 5 1), ⟨.inl rfl⟩, an⟩
 replace hm := iF c3 hm
 refine qu<|qs 8 rfl ?_
 have ao := (V.gr Y6)
 refine qv rfl (Qp Ql rfl ao rfl)<|qv rfl (Qb Qb7 rfl) ?_
 have X := (C.gr Y6)
 refine qv rfl (Qd (v := wv p2.Number) Xm rfl X rfl)<|qv rfl (Qb Gc rfl)<|qv rfl (Qd (v := vp2_39) Hj rfl X rfl) ?_
 have ap := (W.gr Y6)
 obtain ⟨x9, aq, hm⟩ := Qc hm
 refine qe rfl (eC Qxu rfl (Xfl aq ap)) ?_
 rintro j aQ ⟨_, n, p, rfl, q, s, ar⟩
 refine qm rfl<|qm rfl<|Qa<|Qo ?_
 have au := ((((((B.kz K7).trans Y5).md c).trans d).trans Y6).trans ar)
 cases hm
 refine ⟨_, _, rfl, Zb rfl (Qg rfl) (Qg rfl), ?_⟩
 exact ⟨j, n, p, rfl, q, ⟨(Jf (A := (fun x => w.heap.size ≤ x)) s)⟩, au⟩
theorem Xfe {p0 p1 p2 p3 p4 vp2_1 zp2_1 gp2_1 op2_1 vp3_2 zp3_2 gp3_2 op3_2 vp3_4 zp3_4 gp3_4 op3_4 vp3_39 zp3_39 gp3_39 op3_39 r} (hm : Qgj p0 p1 p2 p3 p4 = some r) {w : World} (H : Rd w zp2_1 gp2_1 op2_1 18 vp2_1 (p2.Secret.Labels.map Xn.cs)) (I : Rd w zp3_2 gp3_2 op3_2 18 vp3_2 (p3.Head.Items.map Zd.cs)) (J : Rd w zp3_4 gp3_4 op3_4 2 vp3_4 (p3.Head.Points.map Qu.cs)) (F : Rd w zp3_39 gp3_39 op3_39 1 vp3_39 (p3.Data.map Xq)) :
    Calls Tryz.prog 18 [.agg (Qs.cs p0).toArray, .agg (Za.cs p1).toArray, .agg (Qw.cs p2 vp2_1).toArray, .agg (Ze.cs p3 vp3_2 vp3_4 vp3_39).toArray, .int .i64 p4].toArray w fun e w' => ∃ v, e = .returned v ∧ (∃ ur0_1 zr0_1 gr0_1 ur1_s zr1_s gr1_s, v = .tuple [.agg (Qw.cs r.1 ur0_1).toArray, ur1_s, .int .i64 r.2.2].toArray ∧ Qn w' zr0_1 gr0_1 72 18 ur0_1 (r.1.Secret.Labels.map Xn.cs) ∧ Zm (zr0_1 = 0 ∨ w.heap.size ≤ gr0_1) ∧ Qn w' zr1_s gr1_s 5 1 ur1_s (r.2.1.map Xq) ∧ Zm (zr1_s = 0 ∨ w.heap.size ≤ gr1_s) ∧ Zm (zr1_s = 0 ∨ zr0_1 = 0 ∨ gr1_s ≠ gr0_1) ∧ Gr w w') := by
 unfold Qgj at hm
 refine Xe 63 Tryz.func18 rfl rfl rfl<|qs 7 rfl<|qe rfl (Qy (cs := Qs.cs p0) rfl rfl) ?_
 rintro _ w1 ⟨b1, rfl, a7, W, G1⟩
 have bh := W.lt
 refine qe rfl (Qy (cs := Za.cs p1) rfl rfl) ?_
 rintro _ w2 ⟨b2, rfl, a8, X, G2⟩
 have bi := X.lt
 refine qe rfl (Qy (cs := Qw.cs p2 vp2_1) rfl rfl) ?_
 rintro _ w3 ⟨b3, rfl, a9, Y, G3⟩
 have ba := Y.lt
 refine qe rfl (Qy (cs := Ze.cs p3 vp3_2 vp3_4 vp3_39) rfl rfl) ?_
 rintro _ w4 ⟨b4, rfl, bb, Z, G4⟩
 have bd := Z.lt
 refine qe rfl (Xh (cs := Qw.cs (Qw.mk (Qq.mk 0 [] (Qu.mk 0#64 0#64)) 0 (Zp.mk (Xg.mk false 0 k0) (Xg.mk false 0 k0))) (.slice none 0 0)) Gm rfl) ?_
 rintro _ w5 ⟨b5, rfl, bf, m, G5⟩
 have bg := m.lt
 refine qm rfl<|qm rfl<|Qa<|Qe<|qs 5 rfl ?_
 have Y1 := Gr.trans (Gr.trans (Gr.trans G2 G3) G4) G5
 have aa := (W.gr Y1)
 refine qv rfl (Qp Zw rfl aa rfl) ?_
 have Y2 := Gr.trans (Gr.trans G3 G4) G5
 have K := (X.gr Y2)
 refine qv rfl (Qp Yt rfl K rfl) ?_
 have Y3 := Gr.trans G4 G5
 have L := (Y.gr Y3)
 refine qv rfl (Qp Zr rfl L rfl) ?_
 have Y4 := Gr.trans G1 Y1
 have M := (H.gr Y4)
 obtain ⟨x1, ap, hm⟩ := Qc hm
 refine qe rfl (eC Qqe rfl (Qu5 ap M)) ?_
 rintro _ w6 ⟨rfl, G6⟩
 have bj := G6.size
 refine qm rfl<|qd 2 rfl<|qm rfl<|qv rfl (Jw (a := x1) (b := 0) rfl rfl)<|Qa<|Xj rfl (fun c1 => ?_) (fun c1 => ?_)
 · replace hm := iT c1 hm
   refine qs 5 rfl<|qv rfl (Zv (cs := Qw.cs (Qw.mk (Qq.mk 0 [] (Qu.mk 0#64 0#64)) 0 (Zp.mk (Xg.mk false 0 k0) (Xg.mk false 0 k0))) (.slice none 0 0)) Ht rfl (by kernel_rfl))<|qm rfl ?_
   have aq := (m.gr G6)
   refine qe rfl (Qx Zr rfl rfl (Qw.cs_ones _ _ rfl) aq rfl rfl) ?_
   rintro _ w7 ⟨ar, M7⟩
   refine qm rfl<|qm rfl<|qb ?_
   have Y5 := Gr.trans Y4 G6
   have au := (((Gr.refl w).trans Y5).md M7)
   cases hm
   refine ⟨_, _, rfl, Rw rfl (Xr Zr rfl ar rfl) (Qg rfl) (Qg rfl), ?_⟩
   exact ⟨(.slice none 0 0), 0, 0, (.slice none 0 0), 0, 0, rfl, (Ji _ 0 72 18), ⟨.inl rfl⟩, (Ji _ 0 5 1), ⟨.inl rfl⟩, ⟨(.inl rfl)⟩, au⟩
 replace hm := iF c1 hm
 refine qu<|Qe<|qs 3 rfl ?_
 have Y6 := Gr.trans G5 G6
 have ab := (Z.gr Y6)
 refine qv rfl (Qp Dm rfl ab rfl) ?_
 have Y7 := Gr.trans Y4 G6
 have N := (I.gr Y7)
 have O := (J.gr Y7)
 have P := (F.gr Y7)
 obtain ⟨x2, av, hm⟩ := Qc hm
 refine qe rfl (eC Xa3 rfl (Xfh av N O P)) ?_
 rintro _ w8 ⟨rfl, G8⟩
 have bk := G8.size
 refine qv rfl (Jb rfl)<|Qa<|Xj rfl (fun c2 => ?_) (fun c2 => ?_)
 · replace hm := Xx c2 hm
   refine qs 4 rfl<|qv rfl (Zv (cs := Qw.cs (Qw.mk (Qq.mk 0 [] (Qu.mk 0#64 0#64)) 0 (Zp.mk (Xg.mk false 0 k0) (Xg.mk false 0 k0))) (.slice none 0 0)) Ht rfl (by kernel_rfl)) ?_
   have Y8 := Gr.trans G6 G8
   have aw := (m.gr Y8)
   refine qe rfl (Qx Zr rfl rfl (Qw.cs_ones _ _ rfl) aw rfl rfl) ?_
   rintro _ w9 ⟨ax, M9⟩
   refine qm rfl<|qm rfl<|qb ?_
   have Y9 := Gr.trans Y7 G8
   have ay := (((Gr.refl w).trans Y9).md M9)
   cases hm
   refine ⟨_, _, rfl, Rw rfl (Xr Zr rfl ax rfl) (Qg rfl) (Qg rfl), ?_⟩
   exact ⟨(.slice none 0 0), 0, 0, (.slice none 0 0), 0, 0, rfl, (Ji _ 0 72 18), ⟨.inl rfl⟩, (Ji _ 0 5 1), ⟨.inl rfl⟩, ⟨(.inl rfl)⟩, ay⟩
 replace hm := Xw c2 hm
 refine qu<|Qe<|qs 3 rfl<|qm rfl ?_
 obtain ⟨x3, az, hm⟩ := Qc hm
 refine qe rfl (eC Qm2 rfl (Qnx az)) ?_
 rintro _ bl ⟨rfl, G⟩
 have bm := G.size
 refine qv rfl (Jb rfl)<|Qa<|Xj rfl (fun c3 => ?_) (fun c3 => ?_)
 · replace hm := Xx c3 hm
   refine qs 4 rfl<|qv rfl (Zv (cs := Qw.cs (Qw.mk (Qq.mk 0 [] (Qu.mk 0#64 0#64)) 0 (Zp.mk (Xg.mk false 0 k0) (Xg.mk false 0 k0))) (.slice none 0 0)) Ht rfl (by kernel_rfl)) ?_
   have aA := Gr.trans (Gr.trans G6 G8) G
   have aB := (m.gr aA)
   refine qe rfl (Qx Zr rfl rfl (Qw.cs_ones _ _ rfl) aB rfl rfl) ?_
   rintro _ bo ⟨ac, aC⟩
   refine qm rfl<|qm rfl<|qb ?_
   have aD := Gr.trans (Gr.trans Y7 G8) G
   have aE := (((Gr.refl w).trans aD).md aC)
   cases hm
   refine ⟨_, _, rfl, Rw rfl (Xr Zr rfl ac rfl) (Qg rfl) (Qg rfl), ?_⟩
   exact ⟨(.slice none 0 0), 0, 0, (.slice none 0 0), 0, 0, rfl, (Ji _ 0 72 18), ⟨.inl rfl⟩, (Ji _ 0 5 1), ⟨.inl rfl⟩, ⟨(.inl rfl)⟩, aE⟩
 replace hm := Xw c3 hm
 refine qu<|Qe<|qs 3 rfl<|qv rfl (Qb Fl rfl) ?_
 have d := Gr.trans G8 G
 have Q := (ab.gr d)
 refine qv rfl (Qd (v := bv p3.Kind) Xs rfl Q rfl)<|qv rfl (Yz (p := p3.Kind) (q := 1#8) rfl rfl)<|Qa<|Xj rfl (fun c4 => ?_) (fun c4 => ?_)
 · replace hm := iT c4 hm
   refine qs 12 rfl ?_
   have D := Gr.trans G6 d
   have aF := (aa.gr D)
   refine qv rfl (Qp Zw rfl aF rfl) ?_
   have aG := (K.gr D)
   refine qv rfl (Qp Yt rfl aG rfl) ?_
   have aH := (L.gr D)
   refine qv rfl (Qp Zr rfl aH rfl)<|qv rfl (Qp Dm rfl Q rfl)<|qm rfl ?_
   have aI := (M.gr D)
   have aJ := (N.gr d)
   have aK := (O.gr d)
   have aL := (P.gr d)
   obtain ⟨x4, aM, hm⟩ := Qc hm
   refine qe rfl (eC Xa4 rfl (Xfk aM aI aJ aK aL)) ?_
   rintro _ bp ⟨s, t, u, rfl, f, g, R⟩
   have bq := R.size
   have ad := f.lth
   refine qm rfl<|qm rfl<|qm rfl<|qe rfl (Xh (cs := Qw.cs (Qw.mk (Qq.mk 0 [] (Qu.mk 0#64 0#64)) 0 (Zp.mk (Xg.mk false 0 k0) (Xg.mk false 0 k0))) (.slice none 0 0)) Gm rfl) ?_
   rintro _ br ⟨bs, rfl, aN, ae, S⟩
   have af := (f.gr S)
   refine qe rfl (Qx Zr rfl rfl (Qw.cs_ones _ _ (Qn.oneB af)) ae rfl rfl) ?_
   rintro _ bu ⟨ag, T⟩
   refine qm rfl<|qd 5 rfl<|qv rfl (Qp Zr rfl ag rfl)<|qm rfl ?_
   have aO := ((((m.gr D).gr R).gr S).md T)
   have ah := (af.md T (Xd ad))
   refine qe rfl (Qx Zr rfl rfl (Qw.cs_ones _ _ (Qn.oneB ah)) aO rfl rfl) ?_
   rintro _ bx ⟨ai, aj⟩
   refine qm rfl<|qm rfl<|qb ?_
   have aP := (ah.md aj (Jv g))
   have aQ := (((((((Gr.refl w).trans Y7).trans d).trans R).trans S).md T).md aj)
   cases hm
   refine ⟨_, _, rfl, Rw rfl (Xr Zr rfl ai rfl) (Qg rfl) (Qg rfl), ?_⟩
   exact ⟨s, t, u, (.slice none 0 0), 0, 0, rfl, aP, ⟨(Jf (A := (fun x => w.heap.size ≤ x)) g)⟩, (Ji _ 0 5 1), ⟨.inl rfl⟩, ⟨(.inl rfl)⟩, aQ⟩
 replace hm := iF c4 hm
 refine qu<|qs 10 rfl ?_
 have E := Gr.trans G6 d
 have aR := (K.gr E)
 refine qv rfl (Qp Yt rfl aR rfl) ?_
 have ak := (L.gr E)
 refine qv rfl (Qp Zr rfl ak rfl)<|qv rfl (Qp Dm rfl Q rfl)<|qm rfl ?_
 have al := (M.gr E)
 have aS := (N.gr d)
 have aT := (O.gr d)
 have aU := (P.gr d)
 obtain ⟨x5, aV, hm⟩ := Qc hm
 refine qe rfl (eC Xa5 rfl (Xf9 aV al aS aT aU)) ?_
 rintro _ bz ⟨y, h, i, rfl, j, k, n⟩
 have bA := n.size
 have am := j.lth
 refine qm rfl<|qm rfl<|qm rfl<|qm rfl<|qm rfl<|Qa<|Qe<|qs 2 rfl<|qm rfl<|qv rfl (Jw (a := x5.2) (b := 0) rfl rfl)<|Qa<|Xj rfl (fun c5 => ?_) (fun c5 => ?_)
 · replace hm := iT c5 hm
   refine qs 5 rfl<|qv rfl (Zv (cs := Qw.cs (Qw.mk (Qq.mk 0 [] (Qu.mk 0#64 0#64)) 0 (Zp.mk (Xg.mk false 0 k0) (Xg.mk false 0 k0))) (.slice none 0 0)) Ht rfl (by kernel_rfl))<|qm rfl ?_
   have aW := Gr.trans E n
   have aX := (m.gr aW)
   refine qe rfl (Qx Zr rfl rfl (Qw.cs_ones _ _ rfl) aX rfl rfl) ?_
   rintro _ bB ⟨an, aY⟩
   refine qm rfl<|qm rfl<|qb ?_
   have aZ := (((((Gr.refl w).trans Y7).trans d).trans n).md aY)
   cases hm
   refine ⟨_, _, rfl, Rw rfl (Xr Zr rfl an rfl) (Qg rfl) (Qg rfl), ?_⟩
   exact ⟨(.slice none 0 0), 0, 0, (.slice none 0 0), 0, 0, rfl, (Ji _ 0 72 18), ⟨.inl rfl⟩, (Ji _ 0 5 1), ⟨.inl rfl⟩, ⟨(.inl rfl)⟩, aZ⟩
 replace hm := iF c5 hm
 refine qu<|qs 6 rfl ?_
 have a0 := (ak.gr n)
 refine qv rfl (Qp Zr rfl a0 rfl) ?_
 have a1 := (al.gr n)
 obtain ⟨x6, a2, hm⟩ := Qc hm
 refine qe rfl (eC Qlj rfl (Qny a2 a1)) ?_
 rintro _ bC ⟨z, B, C, rfl, l, c, U⟩
 refine qm rfl ?_
 have a3 := (((m.gr E).gr n).gr U)
 refine qe rfl (Qx Zr rfl rfl (Qw.cs_ones _ _ (Qn.oneB l)) a3 rfl rfl) ?_
 rintro _ bD ⟨ao, V⟩
 refine qm rfl<|qm rfl<|Qa<|Qo ?_
 have a4 := (l.md V (Jv c))
 have a5 := ((j.gr U).md V (Jv k))
 have a6 := ((((((Gr.refl w).trans Y7).trans d).trans n).trans U).md V)
 cases hm
 refine ⟨_, _, rfl, Rw rfl (Xr Zr rfl ao rfl) (Qg rfl) (Qg rfl), ?_⟩
 exact ⟨z, B, C, y, h, i, rfl, a4, ⟨(Jf (A := (fun x => w.heap.size ≤ x)) c)⟩, a5, ⟨(Jf (A := (fun x => w.heap.size ≤ x)) k)⟩, ⟨(Jl (Jf (A := (fun x => h = 0 ∨ x ≠ i)) c (fun x hx => (Qk am.o))))⟩, a6⟩
end Go.Proofs.YtgdojjniakpadaaGreat.Mx
