/- Walks that follow mirrors: Ub. Printed by mx.py. -/
import Derived.Test.YtgdojjniakpadaaGreatUa
import Derived.Test.YtgdojjniakpadaaGreatZd
set_option linter.unusedVariables false
set_option linter.unusedSimpArgs false
set_option maxRecDepth 100000
set_option maxHeartbeats 2000000
namespace Go.Proofs.YtgdojjniakpadaaGreat.Mx
open Go Go.RowKit Go.Sx
theorem Vt : BZ Tryz.prog 23 (kv k0) := fun _ => by kernel_rfl
theorem Wg : FA Tryz.prog 36 0 0 := fun _ _ _ => by kernel_rfl
theorem Wh : Yd Tryz.prog 33 := fun _ => ⟨by kernel_rfl, by kernel_rfl⟩
theorem Gy : FA Tryz.prog 36 1 1 := fun _ _ _ => by kernel_rfl
theorem Yw : FA Tryz.prog 36 2 2 := fun _ _ _ => by kernel_rfl
theorem Yx : Yd Tryz.prog 34 := fun _ => ⟨by kernel_rfl, by kernel_rfl⟩
theorem Bw : FA Tryz.prog 36 3 3 := fun _ _ _ => by kernel_rfl
theorem Qma : Wq Tryz.prog 2 23 [.i .u8, .i .u8, .i .u8, .i .u8, .i .u8, .i .u8, .i .u8, .i .u8, .i .u8, .i .u8, .i .u8, .i .u8, .i .u8, .i .u8, .i .u8, .i .u8] := Qr9 (ks := [.i .u8]) Tryz.underlying23 (Qrv (by kernel_rfl)).choose_spec (by kernel_rfl) Ql Qr7
theorem Dw : Tt Tryz.prog 23 [.i .u8, .i .u8, .i .u8, .i .u8, .i .u8, .i .u8, .i .u8, .i .u8, .i .u8, .i .u8, .i .u8, .i .u8, .i .u8, .i .u8, .i .u8, .i .u8] := ⟨by kernel_rfl, Ql, 2, by decide, Qma⟩
theorem Ph : Ky Tryz.prog 173 18 := fun _ => ⟨by kernel_rfl, by kernel_rfl⟩
theorem Gb : FA Tryz.prog 173 0 0 := fun _ _ _ => by kernel_rfl
theorem Qyn : En Tryz.prog 206 := fun _ _ => by kernel_rfl
theorem Qqa : En Tryz.prog 196 := fun _ _ => by kernel_rfl
theorem Qq3 : En Tryz.prog 121 := fun _ _ => by kernel_rfl
theorem Qoy : ZV Tryz.prog 173 (.agg [.int .i64 0, .int .i64 0, .int .u8 0, .int .u8 0, .int .u8 0, .int .u8 0, .int .u8 0, .int .u8 0, .int .u8 0, .int .u8 0, .int .u8 0, .int .u8 0, .int .u8 0, .int .u8 0, .int .u8 0, .int .u8 0, .int .u8 0, .int .u8 0].toArray) := fun _ => by kernel_rfl
theorem Qes : FA Tryz.prog 72 1 1 := fun _ _ _ => by kernel_rfl
theorem Qza : En Tryz.prog 310 := fun _ _ => by kernel_rfl
theorem Qyo : En Tryz.prog 208 := fun _ _ => by kernel_rfl
theorem Qid : FA Tryz.prog 173 1 2 := fun _ _ _ => by kernel_rfl
theorem Qi3 : En Tryz.prog 209 := fun _ _ => by kernel_rfl
theorem Bz : FA Tryz.prog 36 4 19 := fun _ _ _ => by kernel_rfl
theorem Gn : Ky Tryz.prog 36 35 := fun _ => ⟨by kernel_rfl, by kernel_rfl⟩
theorem Qz4 : En Tryz.prog 297 := fun _ _ => by kernel_rfl
theorem Qzn : En Tryz.prog 351 := fun _ _ => by kernel_rfl
theorem Qqn : En Tryz.prog 298 := fun _ _ => by kernel_rfl
theorem Nw : CV Tryz.prog 5 24 .u64 := fun _ _ _ => by kernel_rfl
theorem Qan : En Tryz.prog 344 := fun _ _ => by kernel_rfl
theorem Qe6 : En Tryz.prog 283 := fun _ _ => by kernel_rfl
theorem Qd7 : ZV Tryz.prog 24 (.int .u64 0) := fun _ => by kernel_rfl
theorem Lu : Pg Tryz.prog 308 1 24 1 [.int .u64 0] := Lv Tryz.underlying308 (Xm).siz Qd7 rfl rfl (by kernel_rfl)
theorem Ei : En Tryz.prog 285 := fun _ _ => by kernel_rfl
theorem Qe7 : En Tryz.prog 286 := fun _ _ => by kernel_rfl
theorem Ow : Dk Tryz.prog 308 24 1 8 := Fb Tryz.underlying308 rfl (by kernel_rfl)
theorem Qlu : En Tryz.prog 284 := fun _ _ => by kernel_rfl
theorem Pk : CV Tryz.prog 24 5 .u8 := fun _ _ _ => by kernel_rfl
theorem Qhc : ZV Tryz.prog 5 (.int .u8 0) := fun _ => by kernel_rfl
theorem Gq : Pg Tryz.prog 32 1 5 1 [.int .u8 0] := Lv Tryz.underlying32 (Xs).siz Qhc rfl rfl (by kernel_rfl)
theorem Wf : Dk Tryz.prog 32 5 1 1 := Fb Tryz.underlying32 rfl (by kernel_rfl)
theorem Fh : En Tryz.prog 290 := fun _ _ => by kernel_rfl
theorem Qam : En Tryz.prog 289 := fun _ _ => by kernel_rfl
theorem Qlv : En Tryz.prog 287 := fun _ _ => by kernel_rfl
theorem Qe8 : En Tryz.prog 296 := fun _ _ => by kernel_rfl
theorem Qwy {p0 p1 bp1 r} (hm : Qhp p0 p1 = some r) {w : World} (hbp1 : Bx w bp1 290 (Xv.cs p1)) :
    Calls Tryz.prog 206 [.agg (Zd.cs p0).toArray, .pointer (some ⟨bp1, 0, none⟩)].toArray w fun e w' => ∃ v, e = .returned v ∧ (v = .bool r ∧ Gr w w') := by
 unfold Qhp at hm
 refine Xe 9 Tryz.func206 rfl rfl rfl<|qs 2 rfl<|qe rfl (Qy (cs := Zd.cs p0) rfl rfl) ?_
 rintro _ w1 ⟨b1, rfl, c, a, G1⟩
 refine qm rfl<|qd 6 rfl ?_
 have B4 := (hbp1.gr G1)
 refine qv rfl (Qp Vj rfl B4 rfl)<|qv rfl (Qb Gb rfl)<|qv rfl (Zy (vs := Xo.cs p0.Subset) Wl rfl a rfl rfl) ?_
 obtain ⟨x1, b, hm⟩ := Qc hm
 refine qe rfl (eC Qlq rfl (Ql8 b)) ?_
 rintro _ w2 ⟨rfl, G2⟩
 refine qv rfl (Jb rfl)<|qm rfl<|Qa<|Qo ?_
 have X6 := (((Gr.refl w).trans G1).trans G2)
 cases hm
 refine ⟨_, _, rfl, Qt rfl (Qg rfl), ?_⟩
 exact ⟨rfl, X6⟩
theorem Xgo {p0 d vp0 zp0 gp0 op0 bp1_0 r} (hm : Qjz p0 d = some r) {w : World} (g : Rd w zp0 gp0 op0 18 vp0 (p0.map Zd.cs)) (hbp1_0 : Bx w bp1_0 290 (Xv.cs d)) :
    Calls Tryz.prog 196 [vp0, .func (.func 206) [].toArray [.pointer (some ⟨bp1_0, 0, none⟩)].toArray].toArray w fun e w' => ∃ v, e = .returned v ∧ (v = .int .i64 r ∧ Gr w w') := by
 unfold Qjz at hm
 refine Xe 19 Tryz.func196 rfl rfl rfl<|qs 1 rfl<|qm rfl<|Qa<|Qe<|qs 3 rfl<|qm rfl<|qv rfl (Zo (l := p0) (c := Zd.cs) Tryz.underlying33 rfl g)<|qm rfl<|Qa<|Xi<|Zq (α := Nat × Int) ([4, 5] ++ rg 8 11) (fun ⟨n1, a2⟩ => [(4, .int .i64 0), (8, .int .i64 a2)]) (fun ⟨n1, a2⟩ wr => (Qr (Mp p0 d) n1 a2 = some r) ∧ Kz [] w wr) (fun ⟨n1, a2⟩ => n1) ⟨Xb, 0⟩ ?_ ?_ ?_
 · exact Qf
 · exact ⟨hm, Kz.refl _ _⟩
 clear hm; rintro ⟨n1, a2⟩ w1 ⟨hm, K1⟩
 have hb := Zx hm; clear hm; obtain ⟨n1, rfl, hm⟩ := hb
 generalize f : Qr (Mp p0 d) n1 = m at hm
 unfold Mp at hm
 try dsimp only at hm
 refine qs 1 rfl<|qv rfl (Zc (a := a2) (b := (p0.length : Int)) rfl rfl)<|Qa<|Qe<|Zu rfl (fun c1 => ?_) (fun c1 => ?_)
 · replace hm := iF c1 hm
   refine Zl<|Xk<|Xk<|Zk<|Xl<|qs 1 rfl<|qm rfl<|Qa<|Qo ?_
   have X9 := ((Gr.refl w).kz K1)
   cases hm
   refine ⟨_, _, rfl, Qt rfl (Qg rfl), ?_⟩
   exact ⟨rfl, X9⟩
 replace hm := iT c1 hm
 refine qu<|Qe<|Xi<|qs 2 rfl<|qm rfl<|qm rfl<|qd 6 rfl<|qm rfl<|qm rfl<|qm rfl ?_
 obtain ⟨y3, h, hm⟩ := Qc hm
 have B4 := (g.kz K1)
 refine qv rfl (Jm (i := a2) Tryz.underlying33 (Ph).siz rfl B4 rfl h)<|qv rfl (Hc Ph rfl B4 h (by first | rfl | omega)) ?_
 have B5 := (hbp1_0.kz K1)
 obtain ⟨x4, j, hm⟩ := Qc hm
 refine qe rfl (Dg Qyn rfl rfl (Qwy j B5)) ?_
 rintro _ w2 ⟨rfl, G2⟩
 refine Qa<|Xj rfl (fun c2 => ?_) (fun c2 => ?_)
 · replace hm := Xx c2 hm
   refine qs 2 rfl<|qm rfl<|qm rfl<|Qa<|Qo<|Zz<|Zf<|Zf<|Zz<|Zf ?_
   have X7 := (((Gr.refl w).kz K1).trans G2)
   cases hm
   refine ⟨_, _, rfl, Qt rfl (Qg rfl), ?_⟩
   exact ⟨rfl, X7⟩
 replace hm := Xw c2 hm
 refine Vi<|Xy<|Xl<|qg 2 rfl<|qv rfl (Zg (k := .i64) (a := a2) (b := 1) rfl rfl)<|qm rfl<|Qh ?_
 have K_8 : Kz [] w w2 := (K1.gr G2)
 subst f
 exact ⟨rfl, ⟨n1, Qi (a2 + 1)⟩, Qf, ⟨hm, K_8⟩, Nat.lt_succ_self _⟩
theorem Xgk {p0 c vp0 zp0 gp0 op0 bp1_0 r} (hm : Qjx p0 c = some r) {w : World} (d : Rd w zp0 gp0 op0 18 vp0 (p0.map Zd.cs)) (hbp1_0 : Bx w bp1_0 290 (Xv.cs c)) :
    Calls Tryz.prog 121 [vp0, .func (.func 206) [].toArray [.pointer (some ⟨bp1_0, 0, none⟩)].toArray].toArray w fun e w' => ∃ v, e = .returned v ∧ (v = .bool r ∧ Gr w w') := by
 unfold Qjx at hm
 refine Xe 9 Tryz.func121 rfl rfl rfl<|qs 1 rfl<|qm rfl<|qd 5 rfl<|qm rfl<|qm rfl ?_
 obtain ⟨x1, f, hm⟩ := Qc hm
 refine qe rfl (eC Qqa rfl (Xgo f d hbp1_0)) ?_
 rintro _ w1 ⟨rfl, G1⟩
 refine qv rfl (Kl (a := x1) (b := 0) rfl rfl)<|qm rfl<|Qa<|Qo ?_
 have X4 := ((Gr.refl w).trans G1)
 cases hm
 refine ⟨_, _, rfl, Qt rfl (Qg rfl), ?_⟩
 exact ⟨rfl, X4⟩
theorem Qx8 {p0 p1 p2 r} (hm : Qdy p0 p1 p2 = some r) {w : World} :
    Calls Tryz.prog 310 [.agg (Xv.cs p0).toArray, .agg (Xn.cs p1).toArray, .agg (Xo.cs p2).toArray].toArray w fun e w' => ∃ v, e = .returned v ∧ (v = .bool r ∧ Gr w w') := by
 unfold Qdy at hm
 refine Xe 38 Tryz.func310 rfl rfl rfl<|qs 4 rfl<|qe rfl (Qy (cs := Xv.cs p0) rfl rfl) ?_
 rintro _ w1 ⟨b1, rfl, t, f, G1⟩
 refine qe rfl (Qy (cs := Xn.cs p1) rfl rfl) ?_
 rintro _ w2 ⟨b2, rfl, u, g, G2⟩
 refine qe rfl (Qy (cs := Xo.cs p2) rfl rfl) ?_
 rintro _ w3 ⟨b3, rfl, x, c, G3⟩
 refine qm rfl<|Qa<|Qe<|qs 5 rfl<|qv rfl (Qb Qer rfl) ?_
 have B7 := (g.gr G3)
 refine qv rfl (Qd (v := .int .i64 p1.Node) Qv rfl B7 rfl)<|qv rfl (Qb Wt rfl)<|qv rfl (Qd (v := .int .i64 p2.Node) Qv rfl c rfl)<|qv rfl (Jw (a := p1.Node) (b := p2.Node) rfl rfl)<|Qa<|Xj rfl (fun c1 => ?_) (fun c1 => ?_)
 · replace hm := iT c1 hm
   refine qs 1 rfl<|qm rfl<|qb ?_
   have X8 := ((((Gr.refl w).trans G1).trans G2).trans G3)
   cases hm
   refine ⟨_, _, rfl, Qt rfl (Qg rfl), ?_⟩
   exact ⟨rfl, X8⟩
 replace hm := iF c1 hm
 refine qu<|Qe ?_
 have X9 := ((((Gr.refl w).trans G1).trans G2).trans G3)
 refine qj (β := Bool) (rg 13 8) (fun a1 => [(20, .bool a1)]) (fun a1 wr => (Qag p1 p2 a1 = some r) ∧ Kz [] w3 wr) ?_ ?_
 · refine qg 8 rfl<|qv rfl (Qb Et rfl) ?_
   have h := ((f.gr G2).gr G3)
   refine qv rfl (Qd (v := bv p0.kind) Xs rfl h rfl)<|qv rfl (Yz (p := p0.kind) (q := 1#8) rfl rfl)<|qp rfl (Qm rfl) (fun c4 => ?_) (fun c4 => ?_)
   · replace hm := iT c4 hm
     refine qk rfl<|qk rfl<|qk rfl<|qm rfl<|Qh ?_
     exact ⟨rfl, true, Qf, hm, Qz⟩
   replace hm := iF c4 hm
   refine qv rfl (Qb Vu rfl)<|qv rfl (Qd (v := .int .i64 p2.Minus) Qv rfl c rfl)<|qv rfl (Jr (a := p2.Minus) (b := 0) rfl rfl)<|qm rfl<|Qh ?_
   exact ⟨rfl, (decide (p2.Minus = 0)), Qf, hm, Qz⟩
 clear hm; rintro a1 w4 ⟨hm, K4⟩
 unfold Qag at hm
 refine Xj rfl (fun c2 => ?_) (fun c2 => ?_)
 · replace hm := Xx c2 hm
   refine qs 6 rfl<|qv rfl (Qb Qes rfl) ?_
   have i := (B7.kz K4)
   refine qv rfl (Qd (v := .int .i64 p1.Minus) Qv rfl i rfl)<|qv rfl (Qb Vu rfl) ?_
   have j := (c.kz K4)
   refine qv rfl (Qd (v := .int .i64 p2.Minus) Qv rfl j rfl)<|qv rfl (Jr (a := p1.Minus) (b := p2.Minus) rfl rfl)<|qm rfl<|qb ?_
   have k := (X9.kz K4)
   cases hm
   refine ⟨_, _, rfl, Qt rfl (Qg rfl), ?_⟩
   exact ⟨rfl, k⟩
 replace hm := Xw c2 hm
 refine qu<|qs 3 rfl<|qv rfl (Qb Qes rfl) ?_
 have d := (B7.kz K4)
 refine qv rfl (Qd (v := .int .i64 p1.Minus) Qv rfl d rfl)<|qm rfl<|qd 11 rfl<|qm rfl<|qv rfl (Qb Qer rfl)<|qv rfl (Qd (v := .int .i64 p1.Node) Qv rfl d rfl) ?_
 obtain ⟨x2, l, hm⟩ := Qc hm
 refine qe rfl (eC Qly rfl (Ql2 l)) ?_
 rintro _ w5 ⟨rfl, G5⟩
 refine Jh rfl (Qm rfl) (fun c3 => ?_) (fun c3 => ?_)
 · replace hm := Xw c3 hm
   refine qk rfl<|qk rfl<|qk rfl<|qk rfl<|qm rfl<|qm rfl<|Qa<|Qo ?_
   have m := ((X9.kz K4).trans G5)
   cases hm
   refine ⟨_, _, rfl, Qt rfl (Qg rfl), ?_⟩
   exact ⟨rfl, m⟩
 replace hm := Xx c3 hm
 refine qv rfl (Qb Vu rfl) ?_
 have n := ((c.kz K4).gr G5)
 refine qv rfl (Qd (v := .int .i64 p2.Minus) Qv rfl n rfl)<|qm rfl ?_
 obtain ⟨x3, o, hm⟩ := Qc hm
 refine qe rfl (eC Qly rfl (Ql2 o)) ?_
 rintro _ w6 ⟨rfl, G6⟩
 refine qm rfl<|qm rfl<|Qa<|Qo ?_
 have s := (((X9.kz K4).trans G5).trans G6)
 cases hm
 refine ⟨_, _, rfl, Qt rfl (Qg rfl), ?_⟩
 exact ⟨rfl, s⟩
theorem Qx4 {p0 p1 p2 vp1_1 zp1_1 gp1_1 op1_1 r} (hm : Qht p0 p1 p2 = some r) {w : World} (f : Rd w zp1_1 gp1_1 op1_1 18 vp1_1 (p1.Labels.map Xn.cs)) :
    Calls Tryz.prog 208 [.agg (Xv.cs p0).toArray, .agg (Qq.cs p1 vp1_1).toArray, .agg (Xo.cs p2).toArray].toArray w fun e w' => ∃ v, e = .returned v ∧ (v = .tuple [kv r.1, .bool r.2].toArray ∧ Gr w w') := by
 unfold Qht at hm
 refine Xe 44 Tryz.func208 rfl rfl rfl<|qs 5 rfl<|qe rfl (Qy (cs := Xv.cs p0) rfl rfl) ?_
 rintro _ w1 ⟨b1, rfl, Y, m, G1⟩
 have ae := m.lt
 refine qe rfl (Qy (cs := Qq.cs p1 vp1_1) rfl rfl) ?_
 rintro _ w2 ⟨b2, rfl, Z, n, G2⟩
 have af := n.lt
 refine qe rfl (Qy (cs := Xo.cs p2) rfl rfl) ?_
 rintro _ w3 ⟨b3, rfl, aa, o, G3⟩
 have ag := o.lt
 refine qe rfl (Xh (cs := kb k0) Zh rfl) ?_
 rintro _ w4 ⟨b4, rfl, ab, d, G4⟩
 have ah := d.lt
 refine qm rfl<|Qa<|Qe<|qs 4 rfl<|qv rfl (Qb Ho rfl) ?_
 have Y1 := Gr.trans G3 G4
 have G := (n.gr Y1)
 refine qv rfl (Qd (v := vp1_1) Hk rfl G rfl) ?_
 have s := (((f.gr G1).gr G2).gr Y1)
 refine qv rfl (Zo (l := p1.Labels) (c := Xn.cs) Tryz.underlying48 rfl s)<|qm rfl<|Qa<|Xi ?_
 have t := ((((Gr.refl w).trans G1).trans G2).trans Y1)
 refine Zq (α := Nat × Int) ([7, 9] ++ rg 13 30) (fun ⟨n1, a2⟩ => [(7, .bool false), (13, .int .i64 a2)]) (fun ⟨n1, a2⟩ wr => (Qr (Ea p0 p1 p2) n1 a2 = some r) ∧ Kz [] w4 wr) (fun ⟨n1, a2⟩ => n1) ⟨Xb, 0⟩ ?_ ?_ ?_
 · exact Qf
 · exact ⟨hm, Kz.refl _ _⟩
 clear hm; rintro ⟨n1, a2⟩ w5 ⟨hm, K5⟩
 have ai := K5.size
 have hb := Zx hm; clear hm; obtain ⟨n1, rfl, hm⟩ := hb
 generalize g : Qr (Ea p0 p1 p2) n1 = ac at hm
 unfold Ea at hm
 try dsimp only at hm
 refine qs 1 rfl<|qv rfl (Zc (a := a2) (b := (p1.Labels.length : Int)) rfl rfl)<|Qa<|Qe<|Zu rfl (fun c1 => ?_) (fun c1 => ?_)
 · replace hm := iF c1 hm
   refine Zl<|Xk<|Xk<|Zk<|Xl<|qs 3 rfl<|qv rfl (Vz Vt) ?_
   have H := (d.kz K5)
   refine qe rfl (Qx Ql rfl rfl rfl H rfl rfl) ?_
   rintro _ aj ⟨u, I⟩
   refine qm rfl<|Qa<|Qo ?_
   have J := ((t.kz K5).md I)
   cases hm
   refine ⟨_, _, rfl, Zb rfl (Xr Ql rfl u rfl) (Qg rfl), ?_⟩
   exact ⟨rfl, J⟩
 replace hm := iT c1 hm
 refine qu<|Qe<|Xi<|qs 4 rfl ?_
 obtain ⟨y3, x, hm⟩ := Qc hm
 have y := (s.kz K5)
 refine qv rfl (Jm (i := a2) Tryz.underlying48 (Hs).siz rfl y rfl x)<|qv rfl (Hc Hs rfl y x (by first | rfl | omega))<|qe rfl (Xh (cs := Xn.cs (Xn.mk 0 0 k0)) Qhe rfl) ?_
 rintro _ w6 ⟨b6, rfl, ad, K, G6⟩
 refine qe rfl (Qx Hs rfl rfl rfl K rfl rfl) ?_
 rintro _ w7 ⟨h, M7⟩
 refine Qa<|Qe<|Xi<|qs 6 rfl ?_
 have z := (((((m.gr G2).gr Y1).kz K5).gr G6).md M7)
 refine qv rfl (Qp Vj rfl z rfl)<|qv rfl (Qp Hs rfl h rfl) ?_
 have j := ((((o.gr G4).kz K5).gr G6).md M7)
 refine qv rfl (Qp Wl rfl j rfl) ?_
 obtain ⟨x4, L, hm⟩ := Qc hm
 refine qe rfl (eC Qza rfl (Qx8 L)) ?_
 rintro _ w8 ⟨rfl, G8⟩
 refine qv rfl (Jb rfl)<|qm rfl<|Qa<|Xj rfl (fun c2 => ?_) (fun c2 => ?_)
 · replace hm := Xx c2 hm
   refine Zl<|Qp8 rfl<|Xk<|Zk<|Xl<|qg 2 rfl<|qv rfl (Zg (k := .i64) (a := a2) (b := 1) rfl rfl)<|qm rfl<|Qh ?_
   have K_21 : Kz [] w4 w8 := (((K5.gr G6).md M7).gr G8)
   subst g
   exact ⟨rfl, ⟨n1, Qi (a2 + 1)⟩, Qf, ⟨hm, K_21⟩, Nat.lt_succ_self _⟩
 replace hm := Xw c2 hm
 have A := ((((t.kz K5).trans G6).md M7).trans G8)
 refine qj (β := Bool) (rg 23 9) (fun a5 => [(23, .bool a5)]) (fun a5 wr => (Qdv p2 y3 a5 = some r) ∧ Kz [] w8 wr) ?_ ?_
 · refine qg 9 rfl<|qv rfl (Qb Et rfl) ?_
   have M := (z.gr G8)
   refine qv rfl (Qd (v := bv p0.kind) Xs rfl M rfl)<|qv rfl (Yz (p := p0.kind) (q := 1#8) rfl rfl)<|qp rfl (Qm rfl) (fun c4 => ?_) (fun c4 => ?_)
   · replace hm := iT c4 hm
     refine qk rfl<|qk rfl<|qk rfl<|qm rfl<|qm rfl<|Qh ?_
     exact ⟨rfl, true, Qf, hm, Qz⟩
   replace hm := iF c4 hm
   refine qv rfl (Qb Vu rfl) ?_
   have N := (j.gr G8)
   refine qv rfl (Qd (v := .int .i64 p2.Minus) Qv rfl N rfl)<|qv rfl (Jr (a := p2.Minus) (b := 0) rfl rfl)<|qm rfl<|qm rfl<|Qh ?_
   exact ⟨rfl, (decide (p2.Minus = 0)), Qf, hm, Qz⟩
 clear hm; rintro a5 w9 ⟨hm, K9⟩
 unfold Qdv at hm
 refine Xj rfl (fun c3 => ?_) (fun c3 => ?_)
 · replace hm := Xx c3 hm
   refine qs 4 rfl<|qv rfl (Qb Qb8 rfl) ?_
   have O := ((h.gr G8).kz K9)
   refine qv rfl (Zy (vs := kb y3.Key) Ql rfl O rfl rfl) ?_
   have P := (((((d.kz K5).gr G6).md M7).gr G8).kz K9)
   refine qe rfl (Qx Ql rfl rfl rfl P rfl rfl) ?_
   rintro _ ak ⟨B, Q⟩
   refine qm rfl<|Qa<|Qo<|Zz<|Zf<|Zz<|Zf<|Zf<|Zz<|Zf ?_
   have R := ((A.kz K9).md Q)
   cases hm
   refine ⟨_, _, rfl, Zb rfl (Xr Ql rfl B rfl) (Qg rfl), ?_⟩
   exact ⟨rfl, R⟩
 replace hm := Xw c3 hm
 refine Vi<|Xy<|Xl<|qs 10 rfl<|qv rfl (Qb Qb8 rfl) ?_
 have C := ((h.gr G8).kz K9)
 refine qv rfl (Zy (vs := kb y3.Key) Ql rfl C rfl rfl)<|qv rfl (Qb Qes rfl)<|qv rfl (Qd (v := .int .i64 y3.Minus) Qv rfl C rfl)<|qv rfl (Qb Vu rfl) ?_
 have S := ((j.gr G8).kz K9)
 refine qv rfl (Qd (v := .int .i64 p2.Minus) Qv rfl S rfl) ?_
 obtain ⟨x6, T, hm⟩ := Qc hm
 refine qe rfl (eC Qlo rfl (Qkz T)) ?_
 rintro _ al ⟨rfl, D⟩
 obtain ⟨x7, U, hm⟩ := Qc hm
 refine qe rfl (eC Qqo rfl (Qpq U)) ?_
 rintro _ am ⟨rfl, E⟩
 have V := (((((((d.kz K5).gr G6).md M7).gr G8).kz K9).gr D).gr E)
 refine qe rfl (Qx Ql rfl rfl rfl V rfl rfl) ?_
 rintro _ an ⟨F, W⟩
 refine qm rfl<|Qa<|Qo<|Zz<|Zf<|Zf<|Zz<|Zf ?_
 have X := ((((A.kz K9).trans D).trans E).md W)
 cases hm
 refine ⟨_, _, rfl, Zb rfl (Xr Ql rfl F rfl) (Qg rfl), ?_⟩
 exact ⟨rfl, X⟩
theorem Qwz {p0 p1 p2 vp1_1 zp1_1 gp1_1 op1_1 vp2_0 zp2_0 gp2_0 op2_0 vp2_2 zp2_2 gp2_2 op2_2 r} (hm : Qdo p0 p1 p2 = some r) {w : World} (p : Rd w zp1_1 gp1_1 op1_1 18 vp1_1 (p1.Labels.map Xn.cs)) (m : Rd w zp2_0 gp2_0 op2_0 18 vp2_0 (p2.Items.map Zd.cs)) (q : Rd w zp2_2 gp2_2 op2_2 2 vp2_2 (p2.Points.map Qu.cs)) :
    Calls Tryz.prog 130 [.agg (Qs.cs p0).toArray, .agg (Qq.cs p1 vp1_1).toArray, .agg (Zi.cs p2 vp2_0 vp2_2).toArray].toArray w fun e w' => ∃ v, e = .returned v ∧ (v = .tuple [kv r.1, .int .i64 r.2].toArray ∧ Gr w w') := by
 have G := p.lth
 have H := m.lth
 have ac := q.lth
 unfold Qdo at hm
 refine Xe 82 Tryz.func130 rfl rfl rfl<|qs 5 rfl<|qe rfl (Qy (cs := Qs.cs p0) rfl rfl) ?_
 rintro _ w1 ⟨b1, rfl, aO, I, G1⟩
 have aZ := I.lt
 refine qe rfl (Qy (cs := Qq.cs p1 vp1_1) rfl rfl) ?_
 rintro _ w2 ⟨b2, rfl, aP, J, G2⟩
 have a0 := J.lt
 refine qe rfl (Qy (cs := Zi.cs p2 vp2_0 vp2_2) rfl rfl) ?_
 rintro _ w3 ⟨b3, rfl, aQ, E, G3⟩
 have a1 := E.lt
 refine qe rfl (Xh (cs := kb k0) Zh rfl) ?_
 rintro _ w4 ⟨b4, rfl, aR, s, G4⟩
 have aS := s.lt
 refine qm rfl<|qd 8 rfl ?_
 have Y1 := Gr.trans (Gr.trans G2 G3) G4
 have ad := (I.gr Y1)
 refine qv rfl (Qp Zw rfl ad rfl) ?_
 obtain ⟨x1, ae, hm⟩ := Qc hm
 refine qe rfl (eC Qqd rfl (Qpp ae (Qn.rd (Ji _ 0 171 2)))) ?_
 rintro _ w5 ⟨rfl, G5⟩
 have a3 := G5.size
 refine qm rfl<|qm rfl<|qm rfl<|qe rfl (Xh (cs := Xv.cs (Xv.mk 0#8 0 0)) My rfl) ?_
 rintro _ w6 ⟨b6, rfl, aT, K, G6⟩
 have aU := K.lt
 refine qe rfl (Qx Vj rfl rfl rfl K rfl rfl) ?_
 rintro _ w7 ⟨L, M7⟩
 have a5 := M7.size
 refine qm rfl<|Qa<|Qe<|qs 2 rfl<|qm rfl<|qv rfl (Jw (a := x1.2) (b := 0) rfl rfl)<|Qa<|Xj rfl (fun c1 => ?_) (fun c1 => ?_)
 · replace hm := iT c1 hm
   refine qs 4 rfl<|qv rfl (Vz Vt)<|qm rfl ?_
   have Y2 := Gr.trans G5 G6
   have af := ((s.gr Y2).md M7)
   refine qe rfl (Qx Ql rfl rfl rfl af rfl rfl) ?_
   rintro _ w8 ⟨ag, M8⟩
   refine qm rfl<|qb ?_
   have Y3 := Gr.trans (Gr.trans G1 Y1) Y2
   have ah := ((((Gr.refl w).trans Y3).md M7).md M8)
   cases hm
   refine ⟨_, _, rfl, Zb rfl (Xr Ql rfl ag rfl) (Qg rfl), ?_⟩
   exact ⟨rfl, ah⟩
 replace hm := iF c1 hm
 refine qu<|qs 2 rfl<|qv rfl (Mv rfl rfl)<|qm rfl<|Qa<|Qe ?_
 have Y4 := Gr.trans (Gr.trans (Gr.trans G1 Y1) G5) G6
 have M := (((Gr.refl w).trans Y4).md M7)
 refine qj (β := Bool) (rg 26 27) (fun a2 => [(52, .bool a2)]) (fun a2 wr => (Bo p1 p2 x1 a2 = some r) ∧ Kz [] w7 wr) ?_ ?_
 · refine qg 27 rfl<|qv rfl (Qb Wg rfl) ?_
   have Y5 := Gr.trans (Gr.trans G4 G5) G6
   have t := ((E.gr Y5).md M7)
   refine qv rfl (Qd (v := vp2_0) Wh rfl t rfl) ?_
   have N := ((m.gr Y4).md M7 (Xd H))
   refine qv rfl (Zo (l := p2.Items) (c := Zd.cs) Tryz.underlying33 rfl N)<|qv rfl (Va (a := (p2.Items.length : Int)) (b := 64) rfl rfl)<|qp rfl (Qm rfl) (fun c6 => ?_) (fun c6 => ?_)
   · replace hm := iT c6 hm
     refine qk rfl<|qk rfl<|qk rfl<|qm rfl<|qm rfl<|qk rfl<|qk rfl<|qk rfl<|qk rfl<|qm rfl<|qm rfl<|qk rfl<|qk rfl<|qk rfl<|qk rfl<|qm rfl<|qm rfl<|qk rfl<|qk rfl<|qk rfl<|qk rfl<|qm rfl<|Qh ?_
     exact ⟨rfl, true, Qf, hm, Qz⟩
   replace hm := iF c6 hm
   refine qv rfl (Qb Gy rfl)<|qv rfl (Qd (v := wv p2.Base) Xm rfl t rfl)<|qv rfl (Ok (c := p2.Base) (d := 0#64) rfl rfl)<|qm rfl<|qp rfl (Qm rfl) (fun c7 => ?_) (fun c7 => ?_)
   · replace hm := iT c7 hm
     refine qk rfl<|qk rfl<|qk rfl<|qk rfl<|qm rfl<|qm rfl<|qk rfl<|qk rfl<|qk rfl<|qk rfl<|qm rfl<|qm rfl<|qk rfl<|qk rfl<|qk rfl<|qk rfl<|qm rfl<|Qh ?_
     exact ⟨rfl, true, Qf, hm, Qz⟩
   replace hm := iF c7 hm
   refine qv rfl (Qb Yw rfl)<|qv rfl (Qd (v := vp2_2) Yx rfl t rfl) ?_
   have ai := ((q.gr Y4).md M7 (Xd ac))
   refine qv rfl (Zo (l := p2.Points) (c := Qu.cs) Tryz.underlying34 rfl ai)<|qv rfl (Va (a := (p2.Points.length : Int)) (b := 0) rfl rfl)<|qm rfl<|qp rfl (Qm rfl) (fun c8 => ?_) (fun c8 => ?_)
   · replace hm := iT c8 hm
     refine qk rfl<|qk rfl<|qk rfl<|qk rfl<|qm rfl<|qm rfl<|qk rfl<|qk rfl<|qk rfl<|qk rfl<|qm rfl<|Qh ?_
     exact ⟨rfl, true, Qf, hm, Qz⟩
   replace hm := iF c8 hm
   refine qv rfl (Qb Bw rfl)<|qv rfl (Zy (vs := kb p2.Box) Ql rfl t rfl rfl)<|qv rfl (Vz Vt)<|qv rfl (Gk (cf := kb) (a := p2.Box) (b := k0) Dw rfl rfl rfl rfl (fun h => Hq h))<|qm rfl<|qp rfl (Qm rfl) (fun c9 => ?_) (fun c9 => ?_)
   · replace hm := iT c9 hm
     refine qk rfl<|qk rfl<|qk rfl<|qk rfl<|qm rfl<|Qh ?_
     exact ⟨rfl, true, Qf, hm, Qz⟩
   replace hm := iF c9 hm
   refine qv rfl (Qb Wg rfl)<|qv rfl (Qd (v := vp2_0) Wh rfl t rfl)<|qm rfl ?_
   obtain ⟨x7, aj, hm⟩ := Qc hm
   refine qe rfl (eC Qq3 rfl (Xgk aj N L)) ?_
   rintro _ a6 ⟨rfl, ak⟩
   refine qm rfl<|Qh ?_
   exact ⟨rfl, x7, Qf, hm, (Qz.gr ak)⟩
 clear hm; rintro a2 w9 ⟨hm, K9⟩
 have a7 := K9.size
 unfold Bo at hm
 refine Xj rfl (fun c2 => ?_) (fun c2 => ?_)
 · replace hm := Xx c2 hm
   refine qs 3 rfl<|qv rfl (Vz Vt) ?_
   have Y6 := Gr.trans G5 G6
   have al := (((s.gr Y6).md M7).kz K9)
   refine qe rfl (Qx Ql rfl rfl rfl al rfl rfl) ?_
   rintro _ a8 ⟨O, am⟩
   refine qm rfl<|qb ?_
   have an := ((M.kz K9).md am)
   cases hm
   refine ⟨_, _, rfl, Zb rfl (Xr Ql rfl O rfl) (Qg rfl), ?_⟩
   exact ⟨rfl, an⟩
 replace hm := Xw c2 hm
 refine qu<|Qe<|qs 4 rfl<|qv rfl (Qb Wg rfl) ?_
 have Y7 := Gr.trans (Gr.trans G4 G5) G6
 have P := (((E.gr Y7).md M7).kz K9)
 refine qv rfl (Qd (v := vp2_0) Wh rfl P rfl) ?_
 have Q := (((m.gr Y4).md M7 (Xd H)).kz K9)
 refine qv rfl (Zo (l := p2.Items) (c := Zd.cs) Tryz.underlying33 rfl Q)<|qm rfl<|Qa<|Xi ?_
 have R := (M.kz K9)
 have ao := (((p.gr Y4).md M7 (Xd G)).kz K9)
 refine Zq (α := Nat × Int) ([7, 12, 13, 14, 15] ++ rg 57 24) (fun ⟨n2, a4⟩ => [(7, .int .i64 0), (57, .int .i64 a4)]) (fun ⟨n2, a4⟩ wr => (Qr (Ur p1 p2 x1) n2 a4 = some r) ∧ Kz [] w9 wr) (fun ⟨n2, a4⟩ => n2) ⟨Xb, 0⟩ ?_ ?_ ?_
 · exact Qf
 · exact ⟨hm, Kz.refl _ _⟩
 clear hm; rintro ⟨n2, a4⟩ a9 ⟨hm, f⟩
 have ba := f.size
 have hb := Zx hm; clear hm; obtain ⟨n2, rfl, hm⟩ := hb
 generalize u : Qr (Ur p1 p2 x1) n2 = aV at hm
 unfold Ur at hm
 try dsimp only at hm
 refine qs 1 rfl<|qv rfl (Zc (a := a4) (b := (p2.Items.length : Int)) rfl rfl)<|Qa<|Qe<|Zu rfl (fun c3 => ?_) (fun c3 => ?_)
 · replace hm := iF c3 hm
   refine Zl<|Xk<|Xk<|Zk<|Xl<|qs 3 rfl<|qv rfl (Vz Vt) ?_
   have Y8 := Gr.trans G5 G6
   have ap := ((((s.gr Y8).md M7).kz K9).kz f)
   refine qe rfl (Qx Ql rfl rfl rfl ap rfl rfl) ?_
   rintro _ bb ⟨S, aq⟩
   refine qm rfl<|Qa<|Qo ?_
   have ar := ((R.kz f).md aq)
   cases hm
   refine ⟨_, _, rfl, Zb rfl (Xr Ql rfl S rfl) (Qg rfl), ?_⟩
   exact ⟨rfl, ar⟩
 replace hm := iT c3 hm
 refine qu<|Qe<|Xi<|qs 4 rfl ?_
 obtain ⟨y5, T, hm⟩ := Qc hm
 have U := (Q.kz f)
 refine qv rfl (Jm (i := a4) Tryz.underlying33 (Ph).siz rfl U rfl T)<|qv rfl (Hc Ph rfl U T (by first | rfl | omega))<|qe rfl (Xh (cs := Zd.cs (Zd.mk (Xo.mk 0 0) k0)) Qoy rfl) ?_
 rintro _ bd ⟨bf, rfl, au, B, j⟩
 have aW := B.lt
 refine qe rfl (Qx Ph rfl rfl rfl B rfl rfl) ?_
 rintro _ bg ⟨C, g⟩
 have bh := g.size
 refine qd 11 rfl ?_
 have av := ((((L.kz K9).kz f).gr j).md g)
 refine qv rfl (Qp Vj rfl av rfl) ?_
 have Y9 := Gr.trans G3 Y7
 have aw := ((((((J.gr Y9).md M7).kz K9).kz f).gr j).md g)
 refine qv rfl (Qp Jc rfl aw rfl)<|qv rfl (Qb Gb rfl)<|qv rfl (Zy (vs := Xo.cs y5.Subset) Wl rfl C rfl rfl) ?_
 have ax := (((ao.kz f).gr j).md g (Xd G))
 obtain ⟨x6, ay, hm⟩ := Qc hm
 refine qe rfl (eC Qyo rfl (Qx4 ay ax)) ?_
 rintro _ bi ⟨rfl, F⟩
 have bj := F.size
 refine qm rfl<|qm rfl<|qm rfl<|qe rfl (Xh (cs := kb k0) Zh rfl) ?_
 rintro _ bk ⟨bl, rfl, az, D, V⟩
 have aX := D.lt
 refine qe rfl (Qx Ql rfl rfl rfl D rfl rfl) ?_
 rintro _ aA ⟨W, n⟩
 have bm := n.size
 refine qm rfl<|qd 1 rfl<|qm rfl<|Qa<|Zu rfl (fun c4 => ?_) (fun c4 => ?_)
 · replace hm := Xw c4 hm
   refine Vi<|Xy<|Xl<|qg 2 rfl<|qv rfl (Zg (k := .i64) (a := a4) (b := 1) rfl rfl)<|qm rfl<|Qh ?_
   have aB := Gr.trans F V
   have K_56 : Kz [] w9 aA := ((((f.gr j).md g).gr aB).md n)
   subst u
   exact ⟨rfl, ⟨n2, Qi (a4 + 1)⟩, Qf, ⟨hm, K_56⟩, Nat.lt_succ_self _⟩
 replace hm := Xx c4 hm
 refine qs 6 rfl<|qv rfl (Qp Ql rfl W rfl)<|qv rfl (Qb Qid rfl) ?_
 have x := Gr.trans F V
 have aC := ((C.gr x).md n)
 refine qv rfl (Zy (vs := kb y5.Box) Ql rfl aC rfl rfl)<|qe rfl (eC Qi3 rfl (Qi1 x6.1 y5.Box _)) ?_
 rintro _ bo ⟨rfl, X⟩
 have bp := X.size
 refine qe rfl (Xh (cs := kb k0) Zh rfl) ?_
 rintro _ bq ⟨br, rfl, aD, Y, aE⟩
 refine qe rfl (Qx Ql rfl rfl rfl Y rfl rfl) ?_
 rintro _ bs ⟨Z, z⟩
 refine Qa<|Qe<|dw [([])] [] (.leaf [(0,10),(2,10),(3,10),(1,0),(4,10)]) ?_
 intro aF y aY
 refine Zj ?_
 have aa := (Z.gr y)
 refine dh 0 rfl rfl (fun w hS => Qp Ql rfl (Bx.kp aa hS) rfl)<|dh 0 rfl rfl (fun w hS => Qb Bz rfl) ?_
 have A := Gr.trans X aE
 have aG := ((((((((P.kz f).gr j).md g).gr x).md n).gr A).md z).gr y)
 refine dh 0 rfl rfl (fun w hS => Zy (vs := kb p2.Check) Ql rfl (Bx.kp aG hS) rfl rfl)<|qz [] rfl (eC Ty rfl (Tx (Dc x6.1 y5.Box) (Xf 53#8) (Vy _) (Vx _) 0#64 _)) ⟨fun _ => Qj, trivial⟩ ?_
 rintro _ aH ⟨rfl, o⟩
 refine kG o ?_
 have aI := ((Kp.refl ([]) aF).gr o)
 refine qh 0 rfl rfl aI (fun w hS => Ss (cf := kb) (a := Jk (Dc x6.1 y5.Box) (Xf 53#8) 0#64) (b := p2.Check) Dw rfl rfl rfl rfl (fun h => Hq h))<|Qa<|Zu rfl (fun c5 => ?_) (fun c5 => ?_)
 · replace hm := iF c5 hm
   refine Vi<|Xy<|Xl<|qg 2 rfl<|qv rfl (Zg (k := .i64) (a := a4) (b := 1) rfl rfl)<|qm rfl<|Qh ?_
   have K_55 : Kz [] w9 aH := ((((((((f.gr j).md g).gr x).md n).gr A).md z).gr y).gr o)
   subst u
   exact ⟨rfl, ⟨n2, Qi (a4 + 1)⟩, Qf, ⟨hm, K_55⟩, Nat.lt_succ_self _⟩
 replace hm := iT c5 hm
 refine qs 3 rfl ?_
 have aJ := (aa.gr o)
 refine qv rfl (Qp Ql rfl aJ rfl) ?_
 have aK := Gr.trans G5 G6
 have aL := ((((((((((((s.gr aK).md M7).kz K9).kz f).gr j).md g).gr x).md n).gr A).md z).gr y).gr o)
 refine qe rfl (Qx Ql rfl rfl rfl aL rfl rfl) ?_
 rintro _ bu ⟨ab, aM⟩
 refine qm rfl<|Qa<|Qo<|Zz<|Zf<|Zf<|Zz<|Zf ?_
 have aN := ((((((((((R.kz f).trans j).md g).trans x).md n).trans A).md z).trans y).trans o).md aM)
 cases hm
 refine ⟨_, _, rfl, Zb rfl (Xr Ql rfl ab rfl) (Qg rfl), ?_⟩
 exact ⟨rfl, aN⟩
theorem Xer {p0 p1 vp1_0 zp1_0 gp1_0 op1_0 vp1_2 zp1_2 gp1_2 op1_2 r} (hm : Qjg p0 p1 = some r) {w : World} (f : Rd w zp1_0 gp1_0 op1_0 18 vp1_0 (p1.Items.map Zd.cs)) (j : Rd w zp1_2 gp1_2 op1_2 2 vp1_2 (p1.Points.map Qu.cs)) :
    Calls Tryz.prog 297 [.agg (Qs.cs p0).toArray, .agg (Zi.cs p1 vp1_0 vp1_2).toArray].toArray w fun e w' => ∃ v, e = .returned v ∧ (v = .bool r ∧ Gr w w') := by
 unfold Qjg at hm
 refine Xe 43 Tryz.func297 rfl rfl rfl<|qs 3 rfl<|qe rfl (Qy (cs := Qs.cs p0) rfl rfl) ?_
 rintro _ w1 ⟨b1, rfl, G, u, G1⟩
 refine qe rfl (Qy (cs := Zi.cs p1 vp1_0 vp1_2) rfl rfl) ?_
 rintro _ w2 ⟨b2, rfl, H, g, G2⟩
 refine qm rfl<|Qa<|Qe ?_
 have Y1 := Gr.trans G1 G2
 have X7 := ((Gr.refl w).trans Y1)
 refine qj (β := Bool) (rg 6 21) (fun a1 => [(26, .bool a1)]) (fun a1 wr => (Ic p0 p1 a1 = some r) ∧ Kz [] w2 wr) ?_ ?_
 · refine qg 21 rfl<|qv rfl (Qb Wg rfl)<|qv rfl (Qd (v := vp1_0) Wh rfl g rfl) ?_
   have x := (f.gr Y1)
   refine qv rfl (Zo (l := p1.Items) (c := Zd.cs) Tryz.underlying33 rfl x)<|qv rfl (Va (a := (p1.Items.length : Int)) (b := 64) rfl rfl)<|qp rfl (Qm rfl) (fun c4 => ?_) (fun c4 => ?_)
   · replace hm := iT c4 hm
     refine qk rfl<|qk rfl<|qk rfl<|qm rfl<|qm rfl<|qk rfl<|qk rfl<|qk rfl<|qk rfl<|qm rfl<|qm rfl<|qk rfl<|qk rfl<|qk rfl<|qk rfl<|qm rfl<|Qh ?_
     exact ⟨rfl, true, Qf, hm, Qz⟩
   replace hm := iF c4 hm
   refine qv rfl (Qb Gy rfl)<|qv rfl (Qd (v := wv p1.Base) Xm rfl g rfl)<|qv rfl (Ok (c := p1.Base) (d := 0#64) rfl rfl)<|qm rfl<|qp rfl (Qm rfl) (fun c5 => ?_) (fun c5 => ?_)
   · replace hm := iT c5 hm
     refine qk rfl<|qk rfl<|qk rfl<|qk rfl<|qm rfl<|qm rfl<|qk rfl<|qk rfl<|qk rfl<|qk rfl<|qm rfl<|Qh ?_
     exact ⟨rfl, true, Qf, hm, Qz⟩
   replace hm := iF c5 hm
   refine qv rfl (Qb Yw rfl)<|qv rfl (Qd (v := vp1_2) Yx rfl g rfl) ?_
   have y := (j.gr Y1)
   refine qv rfl (Zo (l := p1.Points) (c := Qu.cs) Tryz.underlying34 rfl y)<|qv rfl (Jw (a := (p1.Points.length : Int)) (b := 0) rfl rfl)<|qm rfl<|qp rfl (Qm rfl) (fun c6 => ?_) (fun c6 => ?_)
   · replace hm := iT c6 hm
     refine qk rfl<|qk rfl<|qk rfl<|qk rfl<|qm rfl<|Qh ?_
     exact ⟨rfl, true, Qf, hm, Qz⟩
   replace hm := iF c6 hm
   refine qv rfl (Qb Bw rfl)<|qv rfl (Zy (vs := kb p1.Box) Ql rfl g rfl rfl)<|qv rfl (Vz Vt)<|qv rfl (Gk (cf := kb) (a := p1.Box) (b := k0) Dw rfl rfl rfl rfl (fun h => Hq h))<|qm rfl<|Qh ?_
   exact ⟨rfl, (decide (p1.Box ≠ k0)), Qf, hm, Qz⟩
 clear hm; rintro a1 w3 ⟨hm, K3⟩
 unfold Ic at hm
 refine Xj rfl (fun c1 => ?_) (fun c1 => ?_)
 · replace hm := Xx c1 hm
   refine qs 1 rfl<|qm rfl<|qb ?_
   have X9 := (X7.kz K3)
   cases hm
   refine ⟨_, _, rfl, Qt rfl (Qg rfl), ?_⟩
   exact ⟨rfl, X9⟩
 replace hm := Xw c1 hm
 refine qu<|Qe<|qs 1 rfl<|qm rfl<|Qa<|Xi ?_
 have n := (X7.kz K3)
 have z := ((f.gr Y1).kz K3)
 refine Zq (α := Nat × Int) ([4, 5] ++ rg 27 16) (fun ⟨n2, a3⟩ => [(4, .bool false), (5, .int .i64 a3)]) (fun ⟨n2, a3⟩ wr => (Qr (Mf p0 p1) n2 a3 = some r) ∧ Kz [] w3 wr) (fun ⟨n2, a3⟩ => n2) ⟨Xb, 0⟩ ?_ ?_ ?_
 · exact Qf
 · exact ⟨hm, Kz.refl _ _⟩
 clear hm; rintro ⟨n2, a3⟩ w4 ⟨hm, K4⟩
 have hb := Zx hm; clear hm; obtain ⟨n2, rfl, hm⟩ := hb
 generalize m : Qr (Mf p0 p1) n2 = I at hm
 unfold Mf at hm
 try dsimp only at hm
 refine Qe<|qs 5 rfl<|qm rfl<|qv rfl (Qb Wg rfl) ?_
 have o := ((g.kz K3).kz K4)
 refine qv rfl (Qd (v := vp1_0) Wh rfl o rfl) ?_
 have p := (z.kz K4)
 refine qv rfl (Zo (l := p1.Items) (c := Zd.cs) Tryz.underlying33 rfl p)<|qv rfl (Zc (a := a3) (b := (p1.Items.length : Int)) rfl rfl)<|Qa<|Zu rfl (fun c2 => ?_) (fun c2 => ?_)
 · replace hm := iF c2 hm
   refine Zl<|Xk<|Xk<|Zk<|Xl<|qs 1 rfl<|qm rfl<|Qa<|Qo ?_
   have A := (n.kz K4)
   cases hm
   refine ⟨_, _, rfl, Qt rfl (Qg rfl), ?_⟩
   exact ⟨rfl, A⟩
 replace hm := iT c2 hm
 refine qu<|Qe<|Xi<|Qe<|dw [([])] [] (.leaf [(0,10),(1,10),(2,10),(3,10),(4,10),(5,10),(6,10),(7,0),(8,10)]) ?_
 intro w5 G5 J
 refine Zj ?_
 have B := ((((u.gr G2).kz K3).kz K4).gr G5)
 refine dh 0 rfl rfl (fun w hS => Qp Zw rfl (Bx.kp B hS) rfl)<|dh 0 rfl rfl (fun w hS => Qb Wg rfl) ?_
 have C := (o.gr G5)
 refine dh 0 rfl rfl (fun w hS => Qd (v := vp1_0) Wh rfl (Bx.kp C hS) rfl)<|dm 0 rfl rfl ?_
 obtain ⟨y4, s, hm⟩ := Qc hm
 have t := (p.gr G5)
 refine dh 0 rfl rfl (fun w hS => Jm (i := a3) Tryz.underlying33 (Ph).siz rfl (Rd.kp t hS) rfl s)<|dh 0 rfl rfl (fun w hS => Qb Gb rfl)<|dh 0 rfl rfl (fun w hS => Qka (q := 0) (vs := Xo.cs y4.Subset) Wl rfl (Rd.kp t hS) s (by first | rfl | omega) rfl rfl) ?_
 obtain ⟨x5, D, hm⟩ := Qc hm
 refine qz [] rfl (eC Qq5 rfl (Qtw D)) ⟨fun _ => Qj, trivial⟩ ?_
 rintro _ w6 ⟨rfl, G6⟩
 refine kG G6 ?_
 have E := ((Kp.refl ([]) w5).gr G6)
 refine qh 0 rfl rfl E (fun w hS => Jb rfl)<|Qa<|Xj rfl (fun c3 => ?_) (fun c3 => ?_)
 · replace hm := Xx c3 hm
   refine qs 1 rfl<|qm rfl<|Qa<|Qo<|Zz<|Zf<|Zf<|Zz<|Zf ?_
   have F := (((n.kz K4).trans G5).trans G6)
   cases hm
   refine ⟨_, _, rfl, Qt rfl (Qg rfl), ?_⟩
   exact ⟨rfl, F⟩
 replace hm := Xw c3 hm
 refine Vi<|Xy<|Xl<|qg 3 rfl<|qm rfl<|qv rfl (Zg (k := .i64) (a := a3) (b := 1) rfl rfl)<|qm rfl<|Qh ?_
 have K_22 : Kz [] w3 w6 := ((K4.gr G5).gr G6)
 subst m
 exact ⟨rfl, ⟨n2, Qi (a3 + 1)⟩, Qf, ⟨hm, K_22⟩, Nat.lt_succ_self _⟩
theorem Xet {p0 p1 p2 p3 r} (hm : Qg1 p0 p1 p2 p3 = some r) {w : World} :
    Calls Tryz.prog 351 [.agg (Qs.cs p0).toArray, .int .i64 p1, .int .i64 p2, .agg (Xo.cs p3).toArray].toArray w fun e w' => ∃ v, e = .returned v ∧ (v = .bool r ∧ Gr w w') := by
 unfold Qg1 at hm
 refine Xe 46 Tryz.func351 rfl rfl rfl<|qs 3 rfl<|qe rfl (Qy (cs := Qs.cs p0) rfl rfl) ?_
 rintro _ w1 ⟨b1, rfl, o, f, G1⟩
 refine qe rfl (Qy (cs := Xo.cs p3) rfl rfl) ?_
 rintro _ w2 ⟨b2, rfl, s, c, G2⟩
 refine qm rfl<|Qa<|Qe ?_
 have X5 := (((Gr.refl w).trans G1).trans G2)
 refine qj (β := Bool) (rg 9 8) (fun a1 => [(16, .bool a1)]) (fun a1 wr => (Ij p1 p2 p3 a1 = some r) ∧ Kz [] w2 wr) ?_ ?_
 · refine qg 8 rfl<|qv rfl (Qb Yg rfl) ?_
   have g := (f.gr G2)
   refine qv rfl (Qd (v := bv p0.Kind) Xs rfl g rfl)<|qv rfl (Yz (p := p0.Kind) (q := 1#8) rfl rfl)<|qp rfl (Qm rfl) (fun c6 => ?_) (fun c6 => ?_)
   · replace hm := iT c6 hm
     refine qk rfl<|qk rfl<|qk rfl<|qm rfl<|Qh ?_
     exact ⟨rfl, true, Qf, hm, Qz⟩
   replace hm := iF c6 hm
   refine qv rfl (Qb Vu rfl)<|qv rfl (Qd (v := .int .i64 p3.Minus) Qv rfl c rfl)<|qv rfl (Jr (a := p3.Minus) (b := 0) rfl rfl)<|qm rfl<|Qh ?_
   exact ⟨rfl, (decide (p3.Minus = 0)), Qf, hm, Qz⟩
 clear hm; rintro a1 w3 ⟨hm, K3⟩
 unfold Ij at hm
 refine Xj rfl (fun c1 => ?_) (fun c1 => ?_)
 · replace hm := Xx c1 hm
   refine qs 11 rfl<|qm rfl<|qv rfl (Qb Wt rfl) ?_
   have B7 := (c.kz K3)
   refine qv rfl (Qd (v := .int .i64 p3.Node) Qv rfl B7 rfl)<|qv rfl (Jr (a := p1) (b := p3.Node) rfl rfl)<|Jh rfl (Qm rfl) (fun c2 => ?_) (fun c2 => ?_)
   · replace hm := iF c2 hm
     refine qk rfl<|qk rfl<|qk rfl<|qk rfl<|qm rfl<|qm rfl<|qb ?_
     have X9 := (X5.kz K3)
     cases hm
     refine ⟨_, _, rfl, Qt rfl (Qg rfl), ?_⟩
     exact ⟨rfl, X9⟩
   replace hm := iT c2 hm
   refine qm rfl<|qv rfl (Qb Vu rfl)<|qv rfl (Qd (v := .int .i64 p3.Minus) Qv rfl B7 rfl)<|qv rfl (Jr (a := p2) (b := p3.Minus) rfl rfl)<|qm rfl<|qm rfl<|qb ?_
   have X8 := (X5.kz K3)
   cases hm
   refine ⟨_, _, rfl, Qt rfl (Qg rfl), ?_⟩
   exact ⟨rfl, X8⟩
 replace hm := Xw c1 hm
 refine qu<|qs 20 rfl<|qm rfl<|qv rfl (Qb Wt rfl) ?_
 have d := (c.kz K3)
 refine qv rfl (Qd (v := .int .i64 p3.Node) Qv rfl d rfl)<|qv rfl (Jr (a := p1) (b := p3.Node) rfl rfl)<|Jh rfl (Qm rfl) (fun c3 => ?_) (fun c3 => ?_)
 · replace hm := iF c3 hm
   refine qk rfl<|qk rfl<|qm rfl<|qm rfl<|qk rfl<|qk rfl<|qk rfl<|qm rfl<|qm rfl<|qk rfl<|qk rfl<|qk rfl<|qk rfl<|qm rfl<|qm rfl<|Qa<|Qo ?_
   have h := (X5.kz K3)
   cases hm
   refine ⟨_, _, rfl, Qt rfl (Qg rfl), ?_⟩
   exact ⟨rfl, h⟩
 replace hm := iT c3 hm
 refine qm rfl<|qv rfl (Kl (a := p2) (b := 1) rfl rfl)<|qm rfl<|Jh rfl (Qm rfl) (fun c4 => ?_) (fun c4 => ?_)
 · replace hm := iF c4 hm
   refine qk rfl<|qk rfl<|qk rfl<|qm rfl<|qm rfl<|qk rfl<|qk rfl<|qk rfl<|qk rfl<|qm rfl<|qm rfl<|Qa<|Qo ?_
   have i := (X5.kz K3)
   cases hm
   refine ⟨_, _, rfl, Qt rfl (Qg rfl), ?_⟩
   exact ⟨rfl, i⟩
 replace hm := iT c4 hm
 refine qm rfl<|qm rfl ?_
 obtain ⟨x2, j, hm⟩ := Qc hm
 refine qe rfl (eC Qlt rfl (Qnr j)) ?_
 rintro _ w4 ⟨rfl, G4⟩
 refine qm rfl<|Jh rfl (Qm rfl) (fun c5 => ?_) (fun c5 => ?_)
 · replace hm := Xw c5 hm
   refine qk rfl<|qk rfl<|qk rfl<|qk rfl<|qm rfl<|qm rfl<|Qa<|Qo ?_
   have k := ((X5.kz K3).trans G4)
   cases hm
   refine ⟨_, _, rfl, Qt rfl (Qg rfl), ?_⟩
   exact ⟨rfl, k⟩
 replace hm := Xx c5 hm
 refine qv rfl (Qb Vu rfl) ?_
 have l := (d.gr G4)
 refine qv rfl (Qd (v := .int .i64 p3.Minus) Qv rfl l rfl)<|qm rfl ?_
 obtain ⟨x3, m, hm⟩ := Qc hm
 refine qe rfl (eC Qlt rfl (Qnr m)) ?_
 rintro _ w5 ⟨rfl, G5⟩
 refine qm rfl<|qm rfl<|Qa<|Qo ?_
 have n := (((X5.kz K3).trans G4).trans G5)
 cases hm
 refine ⟨_, _, rfl, Qt rfl (Qg rfl), ?_⟩
 exact ⟨rfl, n⟩
theorem Qty {p0 p1 p2 vp1_1 zp1_1 gp1_1 op1_1 r} (hm : Qj9 p0 p1 p2 = some r) {w : World} (g : Rd w zp1_1 gp1_1 op1_1 18 vp1_1 (p1.Labels.map Xn.cs)) :
    Calls Tryz.prog 298 [.agg (Qs.cs p0).toArray, .agg (Qq.cs p1 vp1_1).toArray, .agg (Xo.cs p2).toArray].toArray w fun e w' => ∃ v, e = .returned v ∧ (v = .tuple [kv r.1, .bool r.2].toArray ∧ Gr w w') := by
 unfold Qj9 at hm
 refine Xe 49 Tryz.func298 rfl rfl rfl<|qs 5 rfl<|qe rfl (Qy (cs := Qs.cs p0) rfl rfl) ?_
 rintro _ w1 ⟨b1, rfl, X, n, G1⟩
 have ad := n.lt
 refine qe rfl (Qy (cs := Qq.cs p1 vp1_1) rfl rfl) ?_
 rintro _ w2 ⟨b2, rfl, Y, o, G2⟩
 have ae := o.lt
 refine qe rfl (Qy (cs := Xo.cs p2) rfl rfl) ?_
 rintro _ w3 ⟨b3, rfl, Z, s, G3⟩
 have af := s.lt
 refine qe rfl (Xh (cs := kb k0) Zh rfl) ?_
 rintro _ w4 ⟨b4, rfl, aa, d, G4⟩
 have ag := d.lt
 refine qm rfl<|Qa<|Qe<|qs 1 rfl<|qm rfl<|Qa<|Xi ?_
 have Y1 := Gr.trans (Gr.trans (Gr.trans G1 G2) G3) G4
 have t := ((Gr.refl w).trans Y1)
 have G := (g.gr Y1)
 refine Zq (α := Nat × Int) (rg 7 41) (fun ⟨n1, a2⟩ => [(7, .bool false), (8, .int .i64 a2)]) (fun ⟨n1, a2⟩ wr => (Qr (Ay p0 p1 p2) n1 a2 = some r) ∧ Kz [] w4 wr) (fun ⟨n1, a2⟩ => n1) ⟨Xb, 0⟩ ?_ ?_ ?_
 · exact Qf
 · exact ⟨hm, Kz.refl _ _⟩
 clear hm; rintro ⟨n1, a2⟩ w5 ⟨hm, K5⟩
 have ah := K5.size
 have hb := Zx hm; clear hm; obtain ⟨n1, rfl, hm⟩ := hb
 generalize h : Qr (Ay p0 p1 p2) n1 = ab at hm
 unfold Ay at hm
 try dsimp only at hm
 refine Qe<|qs 5 rfl<|qm rfl<|qv rfl (Qb Ho rfl) ?_
 have Y2 := Gr.trans G3 G4
 have u := ((o.gr Y2).kz K5)
 refine qv rfl (Qd (v := vp1_1) Hk rfl u rfl) ?_
 have j := (G.kz K5)
 refine qv rfl (Zo (l := p1.Labels) (c := Xn.cs) Tryz.underlying48 rfl j)<|qv rfl (Zc (a := a2) (b := (p1.Labels.length : Int)) rfl rfl)<|Qa<|Zu rfl (fun c1 => ?_) (fun c1 => ?_)
 · replace hm := iF c1 hm
   refine Zl<|Xk<|Xk<|Zk<|Xl<|qs 3 rfl<|qv rfl (Vz Vt) ?_
   have H := (d.kz K5)
   refine qe rfl (Qx Ql rfl rfl rfl H rfl rfl) ?_
   rintro _ ai ⟨x, I⟩
   refine qm rfl<|Qa<|Qo ?_
   have J := ((t.kz K5).md I)
   cases hm
   refine ⟨_, _, rfl, Zb rfl (Xr Ql rfl x rfl) (Qg rfl), ?_⟩
   exact ⟨rfl, J⟩
 replace hm := iT c1 hm
 refine qu<|Qe<|Xi<|qs 7 rfl<|qv rfl (Qb Ho rfl)<|qv rfl (Qd (v := vp1_1) Hk rfl u rfl)<|qm rfl ?_
 obtain ⟨y3, y, hm⟩ := Qc hm
 refine qv rfl (Jm (i := a2) Tryz.underlying48 (Hs).siz rfl j rfl y)<|qv rfl (Hc Hs rfl j y (by first | rfl | omega))<|qe rfl (Xh (cs := Xn.cs (Xn.mk 0 0 k0)) Qhe rfl) ?_
 rintro _ w6 ⟨b6, rfl, ac, K, G6⟩
 refine qe rfl (Qx Hs rfl rfl rfl K rfl rfl) ?_
 rintro _ w7 ⟨f, M7⟩
 refine Qa<|Qe<|qs 8 rfl ?_
 have z := (((((n.gr G2).gr Y2).kz K5).gr G6).md M7)
 refine qv rfl (Qp Zw rfl z rfl)<|qv rfl (Qb Qer rfl)<|qv rfl (Qd (v := .int .i64 y3.Node) Qv rfl f rfl)<|qv rfl (Qb Qes rfl)<|qv rfl (Qd (v := .int .i64 y3.Minus) Qv rfl f rfl) ?_
 have m := ((((s.gr G4).kz K5).gr G6).md M7)
 refine qv rfl (Qp Wl rfl m rfl) ?_
 obtain ⟨x4, L, hm⟩ := Qc hm
 refine qe rfl (eC Qzn rfl (Xet L)) ?_
 rintro _ w8 ⟨rfl, G8⟩
 refine qv rfl (Jb rfl)<|Qa<|Xj rfl (fun c2 => ?_) (fun c2 => ?_)
 · replace hm := Xx c2 hm
   refine Zl<|Xk<|Zk<|Xl<|qg 3 rfl<|qm rfl<|qv rfl (Zg (k := .i64) (a := a2) (b := 1) rfl rfl)<|qm rfl<|Qh ?_
   have K_21 : Kz [] w4 w8 := (((K5.gr G6).md M7).gr G8)
   subst h
   exact ⟨rfl, ⟨n1, Qi (a2 + 1)⟩, Qf, ⟨hm, K_21⟩, Nat.lt_succ_self _⟩
 replace hm := Xw c2 hm
 refine qu<|Qe ?_
 have A := ((((t.kz K5).trans G6).md M7).trans G8)
 refine qj (β := Bool) (rg 30 8) (fun a5 => [(37, .bool a5)]) (fun a5 wr => (Qfw p2 y3 a5 = some r) ∧ Kz [] w8 wr) ?_ ?_
 · refine qg 8 rfl<|qv rfl (Qb Yg rfl) ?_
   have M := (z.gr G8)
   refine qv rfl (Qd (v := bv p0.Kind) Xs rfl M rfl)<|qv rfl (Yz (p := p0.Kind) (q := 1#8) rfl rfl)<|qp rfl (Qm rfl) (fun c4 => ?_) (fun c4 => ?_)
   · replace hm := iT c4 hm
     refine qk rfl<|qk rfl<|qk rfl<|qm rfl<|Qh ?_
     exact ⟨rfl, true, Qf, hm, Qz⟩
   replace hm := iF c4 hm
   refine qv rfl (Qb Vu rfl) ?_
   have N := (m.gr G8)
   refine qv rfl (Qd (v := .int .i64 p2.Minus) Qv rfl N rfl)<|qv rfl (Jr (a := p2.Minus) (b := 0) rfl rfl)<|qm rfl<|Qh ?_
   exact ⟨rfl, (decide (p2.Minus = 0)), Qf, hm, Qz⟩
 clear hm; rintro a5 w9 ⟨hm, K9⟩
 unfold Qfw at hm
 refine Xj rfl (fun c3 => ?_) (fun c3 => ?_)
 · replace hm := Xx c3 hm
   refine qs 4 rfl<|qv rfl (Qb Qb8 rfl) ?_
   have O := ((f.gr G8).kz K9)
   refine qv rfl (Zy (vs := kb y3.Key) Ql rfl O rfl rfl) ?_
   have P := (((((d.kz K5).gr G6).md M7).gr G8).kz K9)
   refine qe rfl (Qx Ql rfl rfl rfl P rfl rfl) ?_
   rintro _ aj ⟨B, Q⟩
   refine qm rfl<|qb<|Zz<|Zf<|Zf<|Zz<|Zf ?_
   have R := ((A.kz K9).md Q)
   cases hm
   refine ⟨_, _, rfl, Zb rfl (Xr Ql rfl B rfl) (Qg rfl), ?_⟩
   exact ⟨rfl, R⟩
 replace hm := Xw c3 hm
 refine qu<|qs 10 rfl<|qv rfl (Qb Qb8 rfl) ?_
 have C := ((f.gr G8).kz K9)
 refine qv rfl (Zy (vs := kb y3.Key) Ql rfl C rfl rfl)<|qv rfl (Qb Qes rfl)<|qv rfl (Qd (v := .int .i64 y3.Minus) Qv rfl C rfl)<|qv rfl (Qb Vu rfl) ?_
 have S := ((m.gr G8).kz K9)
 refine qv rfl (Qd (v := .int .i64 p2.Minus) Qv rfl S rfl) ?_
 obtain ⟨x6, T, hm⟩ := Qc hm
 refine qe rfl (eC Qqt rfl (Qu1 T)) ?_
 rintro _ ak ⟨rfl, D⟩
 refine qe rfl (eC Dt rfl (Td x6 (Xf 33#8) (Vy _) (Vx _) 0#64 _)) ?_
 rintro _ al ⟨rfl, E⟩
 have U := (((((((d.kz K5).gr G6).md M7).gr G8).kz K9).gr D).gr E)
 refine qe rfl (Qx Ql rfl rfl rfl U rfl rfl) ?_
 rintro _ am ⟨F, V⟩
 refine qm rfl<|Qa<|Qo<|Zz<|Zf<|Zf<|Zz<|Zf ?_
 have W := ((((A.kz K9).trans D).trans E).md V)
 cases hm
 refine ⟨_, _, rfl, Zb rfl (Xr Ql rfl F rfl) (Qg rfl), ?_⟩
 exact ⟨rfl, W⟩
theorem Qnn {p0 vp0 zp0 gp0 op0 r} (hm : Cw p0 = some r) {w : World} (g : Rd w zp0 gp0 op0 1 vp0 (p0.map Xq)) :
    Calls Tryz.prog 344 [vp0].toArray w fun e w' => ∃ v, e = .returned v ∧ (v = wv r ∧ Gr w w') := by
 unfold Cw at hm
 refine Xe 20 Tryz.func344 rfl rfl rfl<|qs 1 rfl<|qm rfl<|qd 1 rfl<|qm rfl<|Qa<|Qe<|qs 1 rfl<|qm rfl<|Qa<|Xi<|Zq (α := Nat × BitVec 64 × Int) (rg 3 16) (fun ⟨n1, a3, a4⟩ => [(3, wv a3), (4, .int .i64 a4)]) (fun ⟨n1, a3, a4⟩ wr => (Qr (Gg p0) n1 (a3, a4) = some r) ∧ Kz [] w wr) (fun ⟨n1, a3, a4⟩ => n1) ⟨Xb, 0#64, 0⟩ ?_ ?_ ?_
 · exact Qf
 · exact ⟨hm, Kz.refl _ _⟩
 clear hm; rintro ⟨n1, a3, a4⟩ w1 ⟨hm, K1⟩
 have hb := Zx hm; clear hm; obtain ⟨n1, rfl, hm⟩ := hb
 generalize d : Qr (Gg p0) n1 = h at hm
 unfold Gg at hm
 try dsimp only at hm
 refine Qe<|qs 4 rfl<|qm rfl<|qm rfl ?_
 have B3 := (g.kz K1)
 refine qv rfl (Zo (l := p0) (c := Xq) Tryz.underlying32 rfl B3)<|qv rfl (Zc (a := a4) (b := (p0.length : Int)) rfl rfl)<|Qa<|Zu rfl (fun c1 => ?_) (fun c1 => ?_)
 · replace hm := iF c1 hm
   refine Zl<|Xk<|Xk<|Zk<|Xl<|qs 2 rfl<|qm rfl<|qm rfl<|Qa<|Qo ?_
   have X5 := ((Gr.refl w).kz K1)
   cases hm
   refine ⟨_, _, rfl, Qt rfl (Qg rfl), ?_⟩
   exact ⟨rfl, X5⟩
 replace hm := iT c1 hm
 refine qu<|Qe<|Xi<|qg 9 rfl<|qm rfl<|qv rfl (Pw (a := 256#64) (b := a3) rfl rfl)<|qm rfl<|qm rfl ?_
 obtain ⟨y5, f, hm⟩ := Qc hm
 refine qv rfl (Jm (i := a4) Tryz.underlying32 (Xs).siz rfl B3 rfl f)<|qv rfl (Vq (q := 0) (u := bv y5) Xs rfl B3 f (by first | rfl | omega) rfl)<|qv rfl (Qd2 Nw rfl)<|qv rfl (Te (a := 256#64 * a3) (b := y5.setWidth 64) rfl rfl)<|qm rfl<|Qh<|Xy<|Xl<|qg 3 rfl<|qm rfl<|qv rfl (Zg (k := .i64) (a := a4) (b := 1) rfl rfl)<|qm rfl<|Qh ?_
 have K_4 : Kz [] w w1 := K1
 subst d
 exact ⟨rfl, ⟨n1, (256#64 * a3) + (y5.setWidth 64), Qi (a4 + 1)⟩, Qf, ⟨hm, K_4⟩, Nat.lt_succ_self _⟩
theorem Qtv {p0 r} (hm : Cz p0 = some r) {w : World} :
    Calls Tryz.prog 283 [kv p0].toArray w fun e w' => ∃ v, e = .returned v ∧ (v = .tuple [wv r.1, wv r.2].toArray ∧ Gr w w') := by
 unfold Cz at hm
 refine Xe 8 Tryz.func283 rfl rfl rfl<|qs 3 rfl<|qe rfl (Qy (cs := kb p0) rfl rfl) ?_
 rintro _ w1 ⟨b1, rfl, j, b, G1⟩
 refine qm rfl<|qm rfl<|Qa<|Qe<|dw [([])] [] (.leaf [(0,10),(2,10),(1,0),(3,0),(4,10),(5,10)]) ?_
 intro w2 G2 k
 refine Zj ?_
 have B3 := (b.gr G2)
 have c := Qnj (o := 0) (lo := 0) (hi := 8) (p := p0) B3 rfl (by decide) (by decide)
 refine dh 0 rfl rfl (fun w hS => Su (n := 16) (l := 0) (h := 8) Tryz.underlying23 (Xs).siz rfl rfl ⟨_, rfl⟩ (by decide) (by decide) (by decide)) ?_
 have d := Qnj (o := 0) (lo := 8) (hi := 16) (p := p0) B3 rfl (by decide) (by decide)
 refine dh 0 rfl rfl (fun w hS => Su (n := 16) (l := 8) (h := 16) Tryz.underlying23 (Xs).siz rfl ⟨_, rfl⟩ rfl (by decide) (by decide) (by decide)) ?_
 obtain ⟨x1, f, hm⟩ := Qc hm
 refine qz [] rfl (eC Qan rfl (Qnn f c)) ⟨fun _ => Qj, trivial⟩ ?_
 rintro _ w3 ⟨rfl, G3⟩
 refine kG G3 ?_
 have B9 := (d.gr G3)
 obtain ⟨x2, g, hm⟩ := Qc hm
 refine qz [] rfl (eC Qan rfl (Qnn g B9)) ⟨fun _ => Qj, trivial⟩ ?_
 rintro _ w4 ⟨rfl, G4⟩
 refine kG G4 ?_
 have a := (((Kp.refl ([]) w2).gr G3).gr G4)
 refine dn 0 rfl rfl a<|dn 0 rfl rfl a<|Qa<|Qo ?_
 have i := (((((Gr.refl w).trans G1).trans G2).trans G3).trans G4)
 cases hm
 refine ⟨_, _, rfl, Zb rfl (Qg rfl) (Qg rfl), ?_⟩
 exact ⟨rfl, i⟩
theorem Qnq {p0 p1 r} (hm : Rn p0 p1 = some r) {w : World} :
    Calls Tryz.prog 285 [wv p0, .int .i64 p1].toArray w fun e w' => ∃ v, e = .returned v ∧ (v = wv r ∧ Gr w w') := by
 unfold Rn at hm
 refine Xe 13 Tryz.func285 rfl rfl rfl<|qs 1 rfl<|qm rfl<|Qa<|Qe<|dw [([])] [] (.leaf [(0,10),(1,10),(2,10),(3,10),(4,10),(5,10),(6,10),(7,10),(8,10)]) ?_
 intro w1 G1 d
 refine Zj<|dm 0 rfl rfl<|dm 0 rfl rfl ?_
 obtain ⟨nn1, hnn1, hm⟩ := Qc hm
 refine dh 0 rfl rfl (fun w hS => Om (c := p0) (b := p1) rfl rfl hnn1)<|dm 0 rfl rfl<|dm 0 rfl rfl<|dh 0 rfl rfl (fun w hS => Vn (k := .i64) (a := 64) (b := p1) rfl rfl) ?_
 obtain ⟨nn2, hnn2, hm⟩ := Qc hm
 refine dh 0 rfl rfl (fun w hS => Qkf (c := p0) (b := (Qi (64 - p1))) rfl rfl hnn2)<|dh 0 rfl rfl (fun w hS => Bg (a := p0 >>> nn1) (b := p0 <<< nn2) rfl rfl)<|dm 0 rfl rfl<|Qa<|Qo ?_
 have X1 := ((Gr.refl w).trans G1)
 cases hm
 refine ⟨_, _, rfl, Qt rfl (Qg rfl), ?_⟩
 exact ⟨rfl, X1⟩
theorem Qtu {p0 p1 r} (hm : Cx p0 p1 = some r) {w : World} :
    Calls Tryz.prog 286 [wv p0, .int .i64 p1].toArray w fun e w' => ∃ v, e = .returned v ∧ (v = wv r ∧ Gr w w') := by
 unfold Cx at hm
 refine Xe 9 Tryz.func286 rfl rfl rfl<|qs 1 rfl<|qm rfl<|qd 5 rfl<|qm rfl<|qm rfl<|qv rfl (Vn (k := .i64) (a := 64) (b := p1) rfl rfl) ?_
 obtain ⟨x1, c, hm⟩ := Qc hm
 refine qe rfl (eC Ei rfl (Qnq c)) ?_
 rintro _ w1 ⟨rfl, G1⟩
 refine qm rfl<|Qa<|Qo ?_
 have X2 := ((Gr.refl w).trans G1)
 cases hm
 refine ⟨_, _, rfl, Qt rfl (Qg rfl), ?_⟩
 exact ⟨rfl, X2⟩
theorem Xej {p0 r} (hm : Aw p0 = some r) {w : World} :
    Calls Tryz.prog 284 [kv p0].toArray w fun e w' => ∃ v, e = .returned v ∧ (∃ ur0_s zr0_s gr0_s, v = ur0_s ∧ Qn w' zr0_s gr0_s 24 1 ur0_s (r.map Kr) ∧ Zm (zr0_s = 0 ∨ w.heap.size ≤ gr0_s) ∧ Gr w w') := by
 unfold Aw at hm
 refine Xe 34 Tryz.func284 rfl rfl rfl<|qs 2 rfl<|qe rfl (Qy (cs := kb p0) rfl rfl) ?_
 rintro _ w1 ⟨b1, rfl, K, o, G1⟩
 have O := o.lt
 refine qm rfl<|qd 7 rfl<|qv rfl (Qp Ql rfl o rfl) ?_
 obtain ⟨x1, t, hm⟩ := Qc hm
 refine qe rfl (eC Qe6 rfl (Qtv t)) ?_
 rintro _ w2 ⟨rfl, G2⟩
 have z3 := G2.size
 refine qm rfl<|qm rfl<|qm rfl<|qm rfl<|qm rfl<|qd 3 rfl<|qm rfl<|qe rfl (Ve [x1.2] Kr Lu rfl rfl (Kx rfl) rfl rfl rfl) ?_
 rintro u w3 ⟨f, L, y, G3⟩
 have z4 := G3.size
 refine qm rfl<|Qa<|Qe<|qs 1 rfl<|qm rfl<|Qa<|Xi ?_
 have X6 := ((((Gr.refl w).trans G1).trans G2).trans G3)
 refine Zq (α := Nat × BitVec 64 × BitVec 64 × List (BitVec 64) × Int × Value × Nat × Nat) ([3, 4, 5, 6] ++ rg 14 19) (fun ⟨n1, a7, a8, a9, d, vy10, zy10, gy10⟩ => [(3, wv a7), (4, wv a8), (5, vy10), (6, .int .i64 d)]) (fun ⟨n1, a7, a8, a9, d, vy10, zy10, gy10⟩ wr => (Qr (Sj) n1 (a7, a8, a9, d) = some r) ∧ Qn wr zy10 gy10 24 1 vy10 (a9.map Kr) ∧ Zm (zy10 = 0 ∨ (gy10 = f ∧ 1 ≠ 0) ∨ w3.heap.size ≤ gy10) ∧ Kz [(1, f)] w3 wr) (fun ⟨n1, a7, a8, a9, d, vy10, zy10, gy10⟩ => n1) ⟨Xb, x1.1, x1.2, [x1.2], 0, u, 1, f⟩ ?_ ?_ ?_
 · exact Qf
 · exact ⟨hm, y, ⟨Qj⟩, Kz.refl _ _⟩
 clear hm; rintro ⟨n1, a7, a8, a9, d, vy10, zy10, gy10⟩ w4 ⟨hm, i, g, K4⟩
 have z7 := K4.size
 have hb := Zx hm; clear hm; obtain ⟨n1, rfl, hm⟩ := hb
 generalize n : Qr (Sj) n1 = M at hm
 unfold Sj at hm
 try dsimp only at hm
 refine Qe<|qs 2 rfl<|qm rfl<|qv rfl (Zc (a := d) (b := 31) rfl rfl)<|Qa<|Zu rfl (fun c1 => ?_) (fun c1 => ?_)
 · replace hm := iF c1 hm
   refine Zl<|Xk<|Xk<|Zk<|Xl<|qs 2 rfl<|qm rfl<|qm rfl<|Qa<|Qo ?_
   have z := (X6.kz K4 (Qk ((.inr Qj) : 1 = 0 ∨ w.heap.size ≤ f)))
   cases hm
   refine ⟨_, _, rfl, Qt rfl (Qg rfl), ?_⟩
   exact ⟨vy10, zy10, gy10, rfl, i, ⟨(Xc (A := (fun x => w.heap.size ≤ x)) g (.inr Qj))⟩, z⟩
 replace hm := iT c1 hm
 refine qu<|Qe<|Xi<|qs 8 rfl<|qm rfl<|qm rfl ?_
 obtain ⟨h, p, hm⟩ := Qc hm
 refine qe rfl (eC Ei rfl (Qnq p)) ?_
 rintro _ w5 ⟨rfl, G5⟩
 have z9 := G5.size
 refine qv rfl (Te (a := a8) (b := h) rfl rfl)<|qm rfl<|qv rfl (Yb Ye rfl)<|qv rfl (Ns (a := a8 + h) (b := wd d) rfl rfl)<|qm rfl<|qd 5 rfl<|qm rfl ?_
 obtain ⟨j, q, hm⟩ := Qc hm
 refine qe rfl (eC Qe7 rfl (Qtu q)) ?_
 rintro _ w6 ⟨rfl, G6⟩
 have P := G6.size
 refine qm rfl<|qv rfl (Ns (a := j) (b := (a8 + h) ^^^ (wd d)) rfl rfl)<|qm rfl<|Qa<|qg 5 rfl<|qm rfl<|qm rfl<|qe rfl (Ve [j ^^^ ((a8 + h) ^^^ (wd d))] Kr Lu rfl rfl (Kx rfl) rfl rfl rfl) ?_
 rintro Q w7 ⟨R, N, B, G7⟩
 have S := G7.size
 have C := (((i.gr G5).gr G6).gr G7)
 obtain ⟨D, s, hm⟩ := Qc hm
 refine qe rfl (Vl (l := a9) (m := [j ^^^ ((a8 + h) ^^^ (wd d))]) (c := Kr) Ow rfl rfl C (Qn.rd B) s (by decide)) ?_
 rintro E w8 ⟨F, G, H, I, T, J⟩
 refine qm rfl<|Qh<|Xy<|Xl<|qg 3 rfl<|qm rfl<|qv rfl (Zg (k := .i64) (a := d) (b := 1) rfl rfl)<|qm rfl<|Qh ?_
 have K_15 : Kz [(1, f)] w3 w8 := ((((K4.gr G5).gr G6).gr G7).ka I (Qk (Xc (A := (fun x => (x = f ∧ 1 ≠ 0) ∨ w3.heap.size ≤ x)) g Qj)))
 subst n
 exact ⟨rfl, ⟨n1, (a8 + h) ^^^ (wd d), j ^^^ ((a8 + h) ^^^ (wd d)), D, Qi (d + 1), E, F, G⟩, Qf, ⟨hm, H, ⟨(Jg (A := (fun x => (x = f ∧ 1 ≠ 0) ∨ w3.heap.size ≤ x)) J (Xc (A := (fun x => (x = f ∧ 1 ≠ 0) ∨ w3.heap.size ≤ x)) g Qj))⟩, K_15⟩, Nat.lt_succ_self _⟩
theorem Qj4 {p0 p1 r} (hm : Ni p0 p1 = some r) {w : World} :
    Calls Tryz.prog 290 [wv p0, .int .i64 p1].toArray w fun e w' => ∃ v, e = .returned v ∧ (∃ ur0_s zr0_s gr0_s, v = ur0_s ∧ Qn w' zr0_s gr0_s 5 1 ur0_s (r.map Xq) ∧ Zm (zr0_s = 0 ∨ w.heap.size ≤ gr0_s) ∧ Gr w w') := by
 unfold Ni at hm
 refine Xe 21 Tryz.func290 rfl rfl rfl<|qs 1 rfl<|qm rfl<|qd 1 rfl<|qm rfl<|Qa<|Qe<|qs 1 rfl<|qm rfl<|Qa<|Xi<|Zq (α := Nat × BitVec 64 × List (BitVec 8) × Int × Value × Nat × Nat) ([0] ++ rg 5 15) (fun ⟨n1, a5, a6, a8, vy7, zy7, gy7⟩ => [(0, wv a5), (5, vy7), (6, .int .i64 a8)]) (fun ⟨n1, a5, a6, a8, vy7, zy7, gy7⟩ wr => (Qr (Tj p1) n1 (a5, a6, a8) = some r) ∧ Qn wr zy7 gy7 5 1 vy7 (a6.map Xq) ∧ Zm (zy7 = 0 ∨ w.heap.size ≤ gy7) ∧ Kz [] w wr) (fun ⟨n1, a5, a6, a8, vy7, zy7, gy7⟩ => n1) ⟨Xb, p0, [], 0, (.slice none 0 0), 0, 0⟩ ?_ ?_ ?_
 · exact Qf
 · exact ⟨hm, (Ji _ 0 5 1), ⟨(.inl rfl)⟩, Kz.refl _ _⟩
 clear hm; rintro ⟨n1, a5, a6, a8, vy7, zy7, gy7⟩ w1 ⟨hm, f, g, K1⟩
 have z1 := K1.size
 have hb := Zx hm; clear hm; obtain ⟨n1, rfl, hm⟩ := hb
 generalize h : Qr (Tj p1) n1 = D at hm
 unfold Tj at hm
 try dsimp only at hm
 refine Qe<|qs 3 rfl<|qm rfl<|qm rfl<|qv rfl (Zc (a := a8) (b := p1) rfl rfl)<|Qa<|Zu rfl (fun c1 => ?_) (fun c1 => ?_)
 · replace hm := iF c1 hm
   refine Zl<|Xk<|Xk<|Zk<|Xl<|qs 2 rfl<|qm rfl<|qm rfl<|Qa<|Qo ?_
   have X8 := ((Gr.refl w).kz K1)
   cases hm
   refine ⟨_, _, rfl, Qt rfl (Qg rfl), ?_⟩
   exact ⟨vy7, zy7, gy7, rfl, f, ⟨(Jf (A := (fun x => w.heap.size ≤ x)) g)⟩, X8⟩
 replace hm := iT c1 hm
 refine qu<|Qe<|Xi<|qs 7 rfl<|qm rfl ?_
 obtain ⟨x9, n, hm⟩ := Qc hm
 refine qv rfl (Vm (c := a5) (d := 256#64) rfl rfl n)<|qv rfl (Qh2 Pk rfl)<|qe rfl (Ve [x9.setWidth 8] Xq Gq rfl rfl (Kx rfl) rfl rfl rfl) ?_
 rintro F w2 ⟨o, E, p, G2⟩
 have z3 := G2.size
 refine qm rfl ?_
 have B5 := (f.gr G2)
 obtain ⟨q, i, hm⟩ := Qc hm
 refine qe rfl (Vl (l := [x9.setWidth 8]) (m := a6) (c := Xq) Wf rfl rfl p (Qn.rd B5) i (by decide)) ?_
 rintro s w3 ⟨t, u, y, z, G, B⟩
 refine qm rfl<|Qa<|qg 3 rfl<|qm rfl ?_
 obtain ⟨C, j, hm⟩ := Qc hm
 refine qv rfl (Qop (c := a5) (d := 256#64) rfl rfl j)<|qm rfl<|Qh<|Xy<|Xl<|qg 3 rfl<|qm rfl<|qv rfl (Zg (k := .i64) (a := a8) (b := 1) rfl rfl)<|qm rfl<|Qh ?_
 have K_7 : Kz [] w w3 := ((K1.gr G2).ka z (Qk ((.inr Qj) : 1 = 0 ∨ w.heap.size ≤ o)))
 subst h
 exact ⟨rfl, ⟨n1, C, q, Qi (a8 + 1), s, t, u⟩, Qf, ⟨hm, y, ⟨(Jg (A := (fun x => w.heap.size ≤ x)) B (.inr Qj))⟩, K_7⟩, Nat.lt_succ_self _⟩
theorem Qno {p0 vp0 zp0 gp0 op0 r} (hm : Rm p0 = some r) {w : World} (g : Rd w zp0 gp0 op0 1 vp0 (p0.map Xq)) :
    Calls Tryz.prog 289 [vp0].toArray w fun e w' => ∃ v, e = .returned v ∧ (v = kv r ∧ Gr w w') := by
 have h := g.lth
 unfold Rm at hm
 refine Xe 22 Tryz.func289 rfl rfl rfl<|qs 1 rfl<|qe rfl (Xh (cs := kb k0) Zh rfl) ?_
 rintro _ w1 ⟨b1, rfl, G, j, G1⟩
 have I := j.lt
 refine qd 1 rfl<|qe rfl (Xh (cs := kb k0) Zh rfl) ?_
 rintro _ w2 ⟨b2, rfl, H, s, G2⟩
 refine Qa<|Qe<|qs 1 rfl<|qm rfl<|Qa<|Xi ?_
 have X6 := (((Gr.refl w).trans G1).trans G2)
 have B7 := ((g.gr G1).gr G2)
 refine Zq (α := Nat × Int × W2) (rg 4 17) (fun ⟨n1, a3, a4⟩ => [(4, .int .i64 a3)]) (fun ⟨n1, a3, a4⟩ wr => (Qr (Nj p0) n1 (a3, a4) = some r) ∧ Bx wr b2 23 (kb a4) ∧ Kz [(1, b2)] w2 wr) (fun ⟨n1, a3, a4⟩ => n1) ⟨Xb, 0, k0⟩ ?_ ?_ ?_
 · exact Qf
 · exact ⟨hm, s, Kz.refl _ _⟩
 clear hm; rintro ⟨n1, a3, a4⟩ w3 ⟨hm, d, K3⟩
 have hb := Zx hm; clear hm; obtain ⟨n1, rfl, hm⟩ := hb
 generalize f : Qr (Nj p0) n1 = m at hm
 unfold Nj at hm
 try dsimp only at hm
 refine Qe ?_
 have t := (X6.kz K3)
 refine qj (β := Bool) (rg 5 8) (fun a5 => [(12, .bool a5)]) (fun a5 wr => (Lg p0 a3 a4 m a5 = some r) ∧ Kz [] w3 wr) ?_ ?_
 · refine qg 8 rfl<|qm rfl<|qv rfl (Zc (a := a3) (b := 16) rfl rfl)<|Jh rfl (Qm rfl) (fun c2 => ?_) (fun c2 => ?_)
   · replace hm := iF c2 hm
     refine qk rfl<|qk rfl<|qk rfl<|qk rfl<|qm rfl<|Qh ?_
     exact ⟨rfl, false, Qf, hm, Qz⟩
   replace hm := iT c2 hm
   refine qm rfl<|qm rfl ?_
   have x := (B7.kz K3 (Qk (Xd (b := b2) h)))
   refine qv rfl (Zo (l := p0) (c := Xq) Tryz.underlying32 rfl x)<|qv rfl (Zc (a := a3) (b := (p0.length : Int)) rfl rfl)<|qm rfl<|Qh ?_
   exact ⟨rfl, (decide (a3 < (p0.length : Int))), Qf, hm, Qz⟩
 clear hm; rintro a5 w4 ⟨hm, K4⟩
 unfold Lg at hm
 refine Zu rfl (fun c1 => ?_) (fun c1 => ?_)
 · replace hm := Xw c1 hm
   refine Zl<|Xk<|Xk<|Zk<|Xl<|qs 2 rfl ?_
   have y := (d.kz K4)
   refine qv rfl (Qp Ql rfl y rfl) ?_
   have z := (((j.gr G2).kz K3).kz K4)
   refine qe rfl (Qx Ql rfl rfl rfl z rfl rfl) ?_
   rintro _ w6 ⟨A, M6⟩
   refine Qa<|Qo ?_
   have B := ((t.kz K4).md M6)
   cases hm
   refine ⟨_, _, rfl, Qt rfl (Xr Ql rfl A rfl), ?_⟩
   exact ⟨rfl, B⟩
 replace hm := Xx c1 hm
 refine qu<|Qe<|Xi<|qg 7 rfl<|qm rfl<|qm rfl<|qm rfl ?_
 obtain ⟨y6, n, hm⟩ := Qc hm
 have o := ((B7.kz K3 (Qk (Xd (b := b2) h))).kz K4)
 refine qv rfl (Jm (i := a3) Tryz.underlying32 (Xs).siz rfl o rfl n)<|qv rfl (Vq (q := 0) (u := bv y6) Xs rfl o n (by first | rfl | omega) rfl) ?_
 obtain ⟨y7, C, hm⟩ := Qc hm
 refine qv rfl (Gj (i := a3) (p := a4) Tryz.underlying23 (Xs).siz rfl rfl C) ?_
 have D := (d.kz K4)
 obtain ⟨x8, E, hm⟩ := Qc hm
 refine qe rfl (Qep (off := 0) (p := a4) (q := x8) (i := a3) (cs' := kb x8) (Xs).siz rfl rfl D rfl E rfl rfl rfl) ?_
 rintro _ w5 ⟨F, M5⟩
 refine Qh<|Xy<|Xl<|qg 3 rfl<|qm rfl<|qv rfl (Zg (k := .i64) (a := a3) (b := 1) rfl rfl)<|qm rfl<|Qh ?_
 have K_15 : Kz [(1, b2)] w2 w5 := ((K3.kz K4).md M5)
 subst f
 exact ⟨rfl, ⟨n1, Qi (a3 + 1), x8⟩, Qf, ⟨hm, F, K_15⟩, Nat.lt_succ_self _⟩
theorem Xei {p0 p1 r} (hm : Av p0 p1 = some r) {w : World} :
    Calls Tryz.prog 287 [wv p0, wv p1].toArray w fun e w' => ∃ v, e = .returned v ∧ (v = kv r ∧ Gr w w') := by
 unfold Av at hm
 refine Xe 11 Tryz.func287 rfl rfl rfl<|qs 1 rfl<|qe rfl (Xh (cs := kb k0) Zh rfl) ?_
 rintro _ w1 ⟨b1, rfl, E, g, G1⟩
 have F := g.lt
 refine qd 7 rfl<|qm rfl ?_
 obtain ⟨x1, s, hm⟩ := Qc hm
 refine qe rfl (eC Fh rfl (Qj4 s)) ?_
 rintro h w2 ⟨_, i, j, rfl, d, a, G2⟩
 refine qm rfl ?_
 obtain ⟨x2, t, hm⟩ := Qc hm
 refine qe rfl (eC Fh rfl (Qj4 t)) ?_
 rintro k w3 ⟨_, n, o, rfl, f, p, G3⟩
 have B7 := (d.gr G3)
 obtain ⟨l3, u, hm⟩ := Qc hm
 refine qe rfl (Vl (l := x1) (m := x2) (c := Xq) Wf rfl rfl B7 (Qn.rd f) u (by decide)) ?_
 rintro G w4 ⟨H, I, y, q, J, K⟩
 obtain ⟨x4, z, hm⟩ := Qc hm
 refine qe rfl (eC Qam rfl (Qno z (Qn.rd y))) ?_
 rintro _ w5 ⟨rfl, G5⟩
 have B := ((((g.gr G2).gr G3).ka q (Qk (Jv (b := b1) a))).gr G5)
 refine qe rfl (Qx Ql rfl rfl rfl B rfl rfl) ?_
 rintro _ w6 ⟨C, M6⟩
 refine Qa<|Qo ?_
 have D := (((((((Gr.refl w).trans G1).trans G2).trans G3).ka q (Qk (Jf (A := (fun x => w.heap.size ≤ x)) a))).trans G5).md M6)
 cases hm
 refine ⟨_, _, rfl, Qt rfl (Xr Ql rfl C rfl), ?_⟩
 exact ⟨rfl, D⟩
theorem Qfq {p0 p1 r} (hm : Cu p0 p1 = some r) {w : World} :
    Calls Tryz.prog 296 [kv p0, kv p1].toArray w fun e w' => ∃ v, e = .returned v ∧ (v = kv r ∧ Gr w w') := by
 unfold Cu at hm
 refine Xe 36 Tryz.func296 rfl rfl rfl<|qs 3 rfl<|qe rfl (Qy (cs := kb p0) rfl rfl) ?_
 rintro _ w1 ⟨b1, rfl, H, h, G1⟩
 have L := h.lt
 refine qe rfl (Qy (cs := kb p1) rfl rfl) ?_
 rintro _ w2 ⟨b2, rfl, I, j, G2⟩
 have M := j.lt
 refine qe rfl (Xh (cs := kb k0) Zh rfl) ?_
 rintro _ w3 ⟨b3, rfl, J, y, G3⟩
 refine qd 7 rfl ?_
 have B7 := (j.gr G3)
 refine qv rfl (Qp Ql rfl B7 rfl) ?_
 obtain ⟨x1, z, hm⟩ := Qc hm
 refine qe rfl (eC Qe6 rfl (Qtv z)) ?_
 rintro _ w4 ⟨rfl, G4⟩
 refine qm rfl<|qm rfl<|qm rfl<|qm rfl<|qm rfl<|qd 3 rfl ?_
 have B9 := (((h.gr G2).gr G3).gr G4)
 refine qv rfl (Qp Ql rfl B9 rfl) ?_
 obtain ⟨x2, A, hm⟩ := Qc hm
 refine qe rfl (eC Qlu rfl (Xej A)) ?_
 rintro l w5 ⟨_, m, n, rfl, c, o, G5⟩
 refine qm rfl<|Qa<|Qe<|qs 1 rfl<|qm rfl<|Qa<|Xi ?_
 have B := ((((((Gr.refl w).trans G1).trans G2).trans G3).trans G4).trans G5)
 refine Zq (α := Nat × BitVec 64 × BitVec 64 × Int) ([5, 6, 8] ++ rg 16 17) (fun ⟨n1, a6, a7, a8⟩ => [(5, wv a6), (6, wv a7), (8, .int .i64 a8)]) (fun ⟨n1, a6, a7, a8⟩ wr => (Qr (Si x2) n1 (a6, a7, a8) = some r) ∧ Kz [] w5 wr) (fun ⟨n1, a6, a7, a8⟩ => n1) ⟨Xb, x1.1, x1.2, 31⟩ ?_ ?_ ?_
 · exact Qf
 · exact ⟨hm, Kz.refl _ _⟩
 clear hm; rintro ⟨n1, a6, a7, a8⟩ w6 ⟨hm, K6⟩
 have hb := Zx hm; clear hm; obtain ⟨n1, rfl, hm⟩ := hb
 generalize f : Qr (Si x2) n1 = K at hm
 unfold Si at hm
 try dsimp only at hm
 refine Qe<|qs 2 rfl<|qm rfl<|qv rfl (Kl (a := a8) (b := 0) rfl rfl)<|Qa<|Zu rfl (fun c1 => ?_) (fun c1 => ?_)
 · replace hm := iF c1 hm
   refine Zl<|Xk<|Xk<|Zk<|Xl<|qs 4 rfl<|qm rfl<|qm rfl ?_
   obtain ⟨N, p, hm⟩ := Qc hm
   refine qe rfl (eC Qlv rfl (Xei p)) ?_
   rintro _ w9 ⟨rfl, G9⟩
   have C := ((((y.gr G4).gr G5).kz K6).gr G9)
   refine qe rfl (Qx Ql rfl rfl rfl C rfl rfl) ?_
   rintro _ O ⟨s, D⟩
   refine Qa<|Qo ?_
   have E := (((B.kz K6).trans G9).md D)
   cases hm
   refine ⟨_, _, rfl, Qt rfl (Xr Ql rfl s rfl), ?_⟩
   exact ⟨rfl, E⟩
 replace hm := iT c1 hm
 refine qu<|Qe<|Xi<|qs 5 rfl<|qm rfl<|qm rfl<|qv rfl (Ns (a := a7) (b := a6) rfl rfl) ?_
 obtain ⟨x9, F, hm⟩ := Qc hm
 refine qe rfl (eC Ei rfl (Qnq F)) ?_
 rintro _ w7 ⟨rfl, G7⟩
 refine qm rfl<|Qa<|qg 10 rfl<|qm rfl<|qm rfl<|qm rfl ?_
 obtain ⟨g, d, hm⟩ := Qc hm
 have t := ((c.kz K6).gr G7)
 refine qv rfl (Jm (i := a8) Tryz.underlying308 (Xm).siz rfl (Qn.rd t) rfl d)<|qv rfl (Vq (q := 0) (u := wv g) Xm rfl (Qn.rd t) d (by first | rfl | omega) rfl)<|qv rfl (Ns (a := a6) (b := g) rfl rfl)<|qm rfl<|qv rfl (Mw (a := a6 ^^^ g) (b := x9) rfl rfl) ?_
 obtain ⟨G, x, hm⟩ := Qc hm
 refine qe rfl (eC Qe7 rfl (Qtu x)) ?_
 rintro _ w8 ⟨rfl, G8⟩
 refine qm rfl<|Qh<|Xy<|Xl<|qg 3 rfl<|qm rfl<|qv rfl (Vn (k := .i64) (a := a8) (b := 1) rfl rfl)<|qm rfl<|Qh ?_
 have K_17 : Kz [] w5 w8 := ((K6.gr G7).gr G8)
 subst f
 exact ⟨rfl, ⟨n1, G, x9, Qi (a8 - 1)⟩, Qf, ⟨hm, K_17⟩, Nat.lt_succ_self _⟩
theorem Xen {p0 p1 p2 vp1_1 zp1_1 gp1_1 op1_1 vp2_0 zp2_0 gp2_0 op2_0 vp2_2 zp2_2 gp2_2 op2_2 r} (hm : Qc9 p0 p1 p2 = some r) {w : World} (F : Rd w zp1_1 gp1_1 op1_1 18 vp1_1 (p1.Labels.map Xn.cs)) (G : Rd w zp2_0 gp2_0 op2_0 18 vp2_0 (p2.Items.map Zd.cs)) (H : Rd w zp2_2 gp2_2 op2_2 2 vp2_2 (p2.Points.map Qu.cs)) :
    Calls Tryz.prog 198 [.agg (Qs.cs p0).toArray, .agg (Qq.cs p1 vp1_1).toArray, .agg (Zi.cs p2 vp2_0 vp2_2).toArray].toArray w fun e w' => ∃ v, e = .returned v ∧ (v = .tuple [kv r.1, .int .i64 r.2].toArray ∧ Gr w w') := by
 unfold Qc9 at hm
 refine Xe 57 Tryz.func198 rfl rfl rfl<|qs 5 rfl<|qe rfl (Qy (cs := Qs.cs p0) rfl rfl) ?_
 rintro _ w1 ⟨b1, rfl, br, P, G1⟩
 have bC := P.lt
 refine qe rfl (Qy (cs := Qq.cs p1 vp1_1) rfl rfl) ?_
 rintro _ w2 ⟨b2, rfl, bs, Q, G2⟩
 have bD := Q.lt
 refine qe rfl (Qy (cs := Zi.cs p2 vp2_0 vp2_2) rfl rfl) ?_
 rintro _ w3 ⟨b3, rfl, bu, R, G3⟩
 have bE := R.lt
 refine qe rfl (Xh (cs := kb k0) Zh rfl) ?_
 rintro _ w4 ⟨b4, rfl, bx, o, G4⟩
 refine qm rfl<|Qa<|Qe<|qs 3 rfl ?_
 have Y1 := Gr.trans (Gr.trans G2 G3) G4
 have S := (P.gr Y1)
 refine qv rfl (Qp Zw rfl S rfl) ?_
 obtain ⟨x1, aE, hm⟩ := Qc hm
 refine qe rfl (eC Qll rfl (Qnt aE)) ?_
 rintro _ w5 ⟨rfl, G5⟩
 refine qv rfl (Jb rfl)<|Qa<|Xj rfl (fun c1 => ?_) (fun c1 => ?_)
 · replace hm := Xx c1 hm
   refine qs 3 rfl<|qv rfl (Vz Vt) ?_
   have aF := (o.gr G5)
   refine qe rfl (Qx Ql rfl rfl rfl aF rfl rfl) ?_
   rintro _ w6 ⟨aG, M6⟩
   refine qm rfl<|qb ?_
   have Y2 := Gr.trans (Gr.trans G1 Y1) G5
   have aH := (((Gr.refl w).trans Y2).md M6)
   cases hm
   refine ⟨_, _, rfl, Zb rfl (Xr Ql rfl aG rfl) (Qg rfl), ?_⟩
   exact ⟨rfl, aH⟩
 replace hm := Xw c1 hm
 refine qu<|Qe<|qs 4 rfl ?_
 have T := (S.gr G5)
 refine qv rfl (Qp Zw rfl T rfl) ?_
 have Y3 := Gr.trans G4 G5
 have U := (R.gr Y3)
 refine qv rfl (Qp Gn rfl U rfl) ?_
 have Y4 := Gr.trans (Gr.trans G1 Y1) G5
 have V := (G.gr Y4)
 have aI := (H.gr Y4)
 obtain ⟨x2, aJ, hm⟩ := Qc hm
 refine qe rfl (eC Qz4 rfl (Xer aJ V aI)) ?_
 rintro _ w7 ⟨rfl, G7⟩
 refine qv rfl (Jb rfl)<|Qa<|Xj rfl (fun c2 => ?_) (fun c2 => ?_)
 · replace hm := Xx c2 hm
   refine qs 3 rfl<|qv rfl (Vz Vt) ?_
   have Y5 := Gr.trans G5 G7
   have aK := (o.gr Y5)
   refine qe rfl (Qx Ql rfl rfl rfl aK rfl rfl) ?_
   rintro _ w8 ⟨aL, M8⟩
   refine qm rfl<|qb ?_
   have aM := ((((Gr.refl w).trans Y4).trans G7).md M8)
   cases hm
   refine ⟨_, _, rfl, Zb rfl (Xr Ql rfl aL rfl) (Qg rfl), ?_⟩
   exact ⟨rfl, aM⟩
 replace hm := Xw c2 hm
 refine qu<|Qe<|qs 1 rfl<|qm rfl<|Qa<|Xi ?_
 have W := (((Gr.refl w).trans Y4).trans G7)
 have X := ((F.gr Y4).gr G7)
 have aN := (V.gr G7)
 refine Zq (α := Nat × Int) (rg 7 5 ++ rg 21 35) (fun ⟨n1, a4⟩ => [(7, .int .i64 0), (8, .int .i64 a4)]) (fun ⟨n1, a4⟩ wr => (Qr (Ma p0 p1 p2) n1 a4 = some r) ∧ Kz [] w7 wr) (fun ⟨n1, a4⟩ => n1) ⟨Xb, 0⟩ ?_ ?_ ?_
 · exact Qf
 · exact ⟨hm, Kz.refl _ _⟩
 clear hm; rintro ⟨n1, a4⟩ w9 ⟨hm, K9⟩
 have hb := Zx hm; clear hm; obtain ⟨n1, rfl, hm⟩ := hb
 generalize j : Qr (Ma p0 p1 p2) n1 = C at hm
 unfold Ma at hm
 try dsimp only at hm
 refine Qe<|qs 5 rfl<|qm rfl<|qv rfl (Qb Wg rfl) ?_
 have p := ((U.gr G7).kz K9)
 refine qv rfl (Qd (v := vp2_0) Wh rfl p rfl) ?_
 have I := (aN.kz K9)
 refine qv rfl (Zo (l := p2.Items) (c := Zd.cs) Tryz.underlying33 rfl I)<|qv rfl (Zc (a := a4) (b := (p2.Items.length : Int)) rfl rfl)<|Qa<|Zu rfl (fun c3 => ?_) (fun c3 => ?_)
 · replace hm := iF c3 hm
   refine Zl<|Xk<|Xk<|Zk<|Xl<|qs 3 rfl<|qv rfl (Vz Vt) ?_
   have Y6 := Gr.trans G5 G7
   have aO := ((o.gr Y6).kz K9)
   refine qe rfl (Qx Ql rfl rfl rfl aO rfl rfl) ?_
   rintro _ bF ⟨Y, aP⟩
   refine qm rfl<|Qa<|Qo ?_
   have aQ := ((W.kz K9).md aP)
   cases hm
   refine ⟨_, _, rfl, Zb rfl (Xr Ql rfl Y rfl) (Qg rfl), ?_⟩
   exact ⟨rfl, aQ⟩
 replace hm := iT c3 hm
 refine qu<|Qe<|Xi ?_
 have aR := (W.kz K9)
 refine qj (β := W2 × Bool × Nat) ([9, 10] ++ rg 28 12) (fun ⟨a6, a7, bq5⟩ => [(9, .pointer (some ⟨bq5, 0, none⟩)), (10, .bool a7)]) (fun ⟨a6, a7, bq5⟩ wr => (Qja p2 a4 C a6 a7 = some r) ∧ Bx wr bq5 23 (kb a6) ∧ w9.heap.size ≤ bq5 ∧ Kz [] w9 wr) ?_ ?_
 · refine dw [([])] [] (.fork [(0,10),(1,10),(2,10),(3,10),(4,10),(5,10),(6,10),(7,10)] (.leaf [(8,0),(9,10),(10,10),(11,10),(12,0),(13,0),(14,10)]) (.leaf [(12,0),(8,0),(9,10),(10,10),(11,10),(13,0),(14,10)])) ?_
   intro Z d bz
   refine Pb ?_
   have aS := (((T.gr G7).kz K9).gr d)
   refine dh 0 rfl rfl (fun w hS => Qp Zw rfl (Bx.kp aS hS) rfl) ?_
   have Y7 := Gr.trans (Gr.trans G3 Y3) G7
   have aT := (((Q.gr Y7).kz K9).gr d)
   refine dh 0 rfl rfl (fun w hS => Qp Jc rfl (Bx.kp aT hS) rfl)<|dh 0 rfl rfl (fun w hS => Qb Wg rfl) ?_
   have aU := (p.gr d)
   refine dh 0 rfl rfl (fun w hS => Qd (v := vp2_0) Wh rfl (Bx.kp aU hS) rfl)<|dm 0 rfl rfl ?_
   obtain ⟨aV, D, hm⟩ := Qc hm
   have aa := (I.gr d)
   refine dh 0 rfl rfl (fun w hS => Jm (i := a4) Tryz.underlying33 (Ph).siz rfl (Rd.kp aa hS) rfl D)<|dh 0 rfl rfl (fun w hS => Qb Gb rfl)<|dh 0 rfl rfl (fun w hS => Qka (q := 0) (vs := Xo.cs aV.Subset) Wl rfl (Rd.kp aa hS) D (by first | rfl | omega) rfl rfl)<|Hz ?_ ?_
   · refine Zj ?_
     have aW := ((X.kz K9).gr d)
     obtain ⟨ab, ac, hm⟩ := Qc hm
     refine qz [] rfl (eC Qqn rfl (Qty ac aW)) ⟨fun _ => Qj, trivial⟩ ?_
     rintro _ bG ⟨rfl, s⟩
     have bH := s.size
     refine kG s ?_
     have t := ((Kp.refl ([]) Z).gr s)
     refine dn 0 rfl rfl t<|dn 0 rfl rfl t<|dn 0 rfl rfl t<|qz [] rfl (Xh (cs := kb k0) Zh rfl) ⟨fun _ => Qj, trivial⟩ ?_
     rintro _ bI ⟨ad, rfl, aX, ae, J⟩
     refine kG J<|qz [(1, ad)] rfl (Qx Ql rfl rfl rfl ae rfl rfl) ⟨fun _ => Qj, trivial⟩ ?_
     rintro _ bJ ⟨af, K⟩
     refine kM K ?_
     have aY := ((t.gr J).md K)
     refine dn 0 rfl rfl aY<|Qh ?_
     exact ⟨rfl, ⟨ab.1, ab.2, ad⟩, Qf, hm, af, (by omega), ((((Qz.gr d).gr s).gr J).md K)⟩
   refine Zj<|qz [] rfl (Xh (cs := kb k0) Zh rfl) ⟨fun _ => Qj, trivial⟩ ?_
   rintro _ bK ⟨ag, rfl, aZ, ah, u⟩
   refine kG u ?_
   have a0 := (((X.kz K9).gr d).gr u)
   obtain ⟨ai, aj, hm⟩ := Qc hm
   refine qz [] rfl (eC Qqn rfl (Qty aj a0)) ⟨fun _ => Qj, trivial⟩ ?_
   rintro _ bL ⟨rfl, x⟩
   refine kG x ?_
   have y := (((Kp.refl ([]) Z).gr u).gr x)
   refine dn 0 rfl rfl y<|dn 0 rfl rfl y<|dn 0 rfl rfl y ?_
   have a1 := (ah.gr x)
   refine qz [(1, ag)] rfl (Qx Ql rfl rfl rfl a1 rfl rfl) ⟨fun _ => Qj, trivial⟩ ?_
   rintro _ bM ⟨ak, L⟩
   refine kM L ?_
   have a2 := (y.md L)
   refine dn 0 rfl rfl a2<|Qh ?_
   exact ⟨rfl, ⟨ai.1, ai.2, ag⟩, Qf, hm, ak, (by omega), ((((Qz.gr d).gr u).gr x).md L)⟩
 clear hm; rintro ⟨a6, a7, bq5⟩ M ⟨hm, z, aC, f⟩
 unfold Qja at hm
 refine Qe<|qs 2 rfl<|qm rfl<|qv rfl (Jb rfl)<|Qa<|Xj rfl (fun c4 => ?_) (fun c4 => ?_)
 · replace hm := Xx c4 hm
   refine Zl<|Xk<|Zk<|Xl<|qg 3 rfl<|qm rfl<|qv rfl (Zg (k := .i64) (a := a4) (b := 1) rfl rfl)<|qm rfl<|Qh ?_
   have K_35 : Kz [] w7 M := (K9.kz f)
   subst j
   exact ⟨rfl, ⟨n1, Qi (a4 + 1)⟩, Qf, ⟨hm, K_35⟩, Nat.lt_succ_self _⟩
 replace hm := Xw c4 hm
 refine qu ?_
 have a3 := (aR.kz f)
 refine qj (β := W2 × Nat) ([11] ++ rg 42 8) (fun ⟨a9, bq8⟩ => [(11, .pointer (some ⟨bq8, 0, none⟩))]) (fun ⟨a9, bq8⟩ wr => (Qjb p2 a4 C a9 = some r) ∧ Bx wr bq8 23 (kb a9) ∧ M.heap.size ≤ bq8 ∧ Kz [] M wr) ?_ ?_
 · refine dw [([])] [] (.fork [(0,10),(1,10),(2,10),(3,10),(4,10),(5,10),(6,10)] (.leaf [(7,0),(8,0),(9,0)]) (.leaf [(8,0),(7,0),(9,0)])) ?_
   intro bN m bA
   refine Pb ?_
   have a5 := (z.gr m)
   refine dh 0 rfl rfl (fun w hS => Qp Ql rfl (Bx.kp a5 hS) rfl)<|dh 0 rfl rfl (fun w hS => Qb Wg rfl) ?_
   have a8 := ((p.kz f).gr m)
   refine dh 0 rfl rfl (fun w hS => Qd (v := vp2_0) Wh rfl (Bx.kp a8 hS) rfl)<|dm 0 rfl rfl ?_
   obtain ⟨ba, E, hm⟩ := Qc hm
   have al := ((I.kz f).gr m)
   refine dh 0 rfl rfl (fun w hS => Jm (i := a4) Tryz.underlying33 (Ph).siz rfl (Rd.kp al hS) rfl E)<|dh 0 rfl rfl (fun w hS => Qb Qid rfl)<|dh 0 rfl rfl (fun w hS => Qka (q := 2) (vs := kb ba.Box) Ql rfl (Rd.kp al hS) E (by first | rfl | omega) rfl rfl)<|Hz ?_ ?_
   · refine Zj ?_
     obtain ⟨bb, am, hm⟩ := Qc hm
     refine qz [] rfl (eC Qe8 rfl (Qfq am)) ⟨fun _ => Qj, trivial⟩ ?_
     rintro _ bO ⟨rfl, N⟩
     have bP := N.size
     refine kG N<|qz [] rfl (Xh (cs := kb k0) Zh rfl) ⟨fun _ => Qj, trivial⟩ ?_
     rintro _ bQ ⟨an, rfl, bd, ao, ap⟩
     refine kG ap<|qz [(1, an)] rfl (Qx Ql rfl rfl rfl ao rfl rfl) ⟨fun _ => Qj, trivial⟩ ?_
     rintro _ bR ⟨aq, ar⟩
     refine kM ar<|Qh ?_
     exact ⟨rfl, ⟨bb, an⟩, Qf, hm, aq, (by omega), ((((Qz.gr m).gr N).gr ap).md ar)⟩
   refine Zj<|qz [] rfl (Xh (cs := kb k0) Zh rfl) ⟨fun _ => Qj, trivial⟩ ?_
   rintro _ bS ⟨au, rfl, bf, av, aw⟩
   refine kG aw ?_
   obtain ⟨bg, ax, hm⟩ := Qc hm
   refine qz [] rfl (eC Qe8 rfl (Qfq ax)) ⟨fun _ => Qj, trivial⟩ ?_
   rintro _ bT ⟨rfl, O⟩
   refine kG O ?_
   have bh := (av.gr O)
   refine qz [(1, au)] rfl (Qx Ql rfl rfl rfl bh rfl rfl) ⟨fun _ => Qj, trivial⟩ ?_
   rintro _ bU ⟨ay, az⟩
   refine kM az<|Qh ?_
   exact ⟨rfl, ⟨bg, au⟩, Qf, hm, ay, (by omega), ((((Qz.gr m).gr aw).gr O).md az)⟩
 clear hm; rintro ⟨a9, bq8⟩ bV ⟨hm, A, aD, B⟩
 unfold Qjb at hm
 refine Qe<|dw [([])] [] (.leaf [(0,10),(2,10),(3,10),(1,0),(4,10)]) ?_
 intro bi n bB
 refine Zj ?_
 have aA := (A.gr n)
 refine dh 0 rfl rfl (fun w hS => Qp Ql rfl (Bx.kp aA hS) rfl)<|dh 0 rfl rfl (fun w hS => Qb Bz rfl) ?_
 have bj := (((p.kz f).kz B).gr n)
 refine dh 0 rfl rfl (fun w hS => Zy (vs := kb p2.Check) Ql rfl (Bx.kp bj hS) rfl rfl)<|qz [] rfl (eC Dt rfl (Td a9 (Xf 53#8) (Vy _) (Vx _) 0#64 _)) ⟨fun _ => Qj, trivial⟩ ?_
 rintro _ bk ⟨rfl, g⟩
 refine kG g ?_
 have bl := ((Kp.refl ([]) bi).gr g)
 refine qh 0 rfl rfl bl (fun w hS => Ss (cf := kb) (a := Jk a9 (Xf 53#8) 0#64) (b := p2.Check) Dw rfl rfl rfl rfl (fun h => Hq h))<|Qa<|Zu rfl (fun c5 => ?_) (fun c5 => ?_)
 · replace hm := iF c5 hm
   refine Vi<|Xy<|Xl<|qg 3 rfl<|qm rfl<|qv rfl (Zg (k := .i64) (a := a4) (b := 1) rfl rfl)<|qm rfl<|Qh ?_
   have K_47 : Kz [] w7 bk := ((((K9.kz f).kz B).gr n).gr g)
   subst j
   exact ⟨rfl, ⟨n1, Qi (a4 + 1)⟩, Qf, ⟨hm, K_47⟩, Nat.lt_succ_self _⟩
 replace hm := iT c5 hm
 refine qs 3 rfl ?_
 have bm := (aA.gr g)
 refine qv rfl (Qp Ql rfl bm rfl) ?_
 have Y8 := Gr.trans G5 G7
 have bo := ((((((o.gr Y8).kz K9).kz f).kz B).gr n).gr g)
 refine qe rfl (Qx Ql rfl rfl rfl bo rfl rfl) ?_
 rintro _ bW ⟨aB, bp⟩
 refine qm rfl<|Qa<|Qo<|Zz<|Zf<|Zf<|Zz<|Zf ?_
 have bq := ((((a3.kz B).trans n).trans g).md bp)
 cases hm
 refine ⟨_, _, rfl, Zb rfl (Xr Ql rfl aB rfl) (Qg rfl), ?_⟩
 exact ⟨rfl, bq⟩
end Go.Proofs.YtgdojjniakpadaaGreat.Mx
