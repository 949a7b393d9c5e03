/- Walks that follow mirrors: Uc. Printed by mx.py. -/
import Derived.Test.YtgdojjniakpadaaGreatUb
import Derived.Test.YtgdojjniakpadaaGreatZd
set_option linter.unusedVariables false
set_option linter.unusedSimpArgs false
set_option maxRecDepth 100000
set_option maxHeartbeats 2000000
namespace Go.Proofs.YtgdojjniakpadaaGreat.Mx
open Go Go.RowKit Go.Sx
theorem Dh : FA Tryz.prog 26 0 0 := fun _ _ _ => by kernel_rfl
theorem Qqu : En Tryz.prog 357 := fun _ _ => by kernel_rfl
theorem Hu : FA Tryz.prog 26 1 1 := fun _ _ _ => by kernel_rfl
theorem Qb6 : FA Tryz.prog 26 2 2 := fun _ _ _ => by kernel_rfl
theorem Qqv : En Tryz.prog 358 := fun _ _ => by kernel_rfl
theorem Qzc : En Tryz.prog 316 := fun _ _ => by kernel_rfl
theorem Qlr : En Tryz.prog 212 := fun _ _ => by kernel_rfl
theorem Qqs : En Tryz.prog 343 := fun _ _ => by kernel_rfl
theorem Qls : En Tryz.prog 273 := fun _ _ => by kernel_rfl
theorem Qyw : En Tryz.prog 270 := fun _ _ => by kernel_rfl
theorem Qlk : En Tryz.prog 174 := fun _ _ => by kernel_rfl
theorem Qvx : Dk Tryz.prog 309 24 1 8 := Fb Tryz.underlying309 rfl (by kernel_rfl)
theorem Nt : ZV Tryz.prog 278 (.agg [.int .u64 0, .int .u64 0].toArray) := fun _ => by kernel_rfl
theorem Lz : FA Tryz.prog 278 0 0 := fun _ _ _ => by kernel_rfl
theorem Nz : FA Tryz.prog 278 1 1 := fun _ _ _ => by kernel_rfl
theorem Wr : Ky Tryz.prog 278 2 := fun _ => ⟨by kernel_rfl, by kernel_rfl⟩
theorem Qe2 : En Tryz.prog 187 := fun _ _ => by kernel_rfl
theorem Xb1 : F1 Tryz.prog 278 0 0 := Xb2 (fun _ _ => by kernel_rfl)
theorem Qyu : En Tryz.prog 222 := fun _ _ => by kernel_rfl
theorem Qzd : En Tryz.prog 317 := fun _ _ => by kernel_rfl
theorem Qt1 : Yd Tryz.prog 309 := fun _ => ⟨by kernel_rfl, by kernel_rfl⟩
theorem Qt2 : Yd Tryz.prog 312 := fun _ => ⟨by kernel_rfl, by kernel_rfl⟩
theorem Qde : Pg Tryz.prog 308 2 24 1 [.int .u64 0, .int .u64 0] := Lv Tryz.underlying308 (Xm).siz Qd7 rfl rfl (by kernel_rfl)
theorem Qe5 : En Tryz.prog 218 := fun _ _ => by kernel_rfl
theorem Qzq : En Tryz.prog 359 := fun _ _ => by kernel_rfl
theorem Qyp : En Tryz.prog 213 := fun _ _ => by kernel_rfl
theorem Qyq : En Tryz.prog 214 := fun _ _ => by kernel_rfl
theorem Ug : ZV Tryz.prog 50 (.agg [.int .u64 0, .int .u64 0].toArray) := fun _ => by kernel_rfl
theorem Qhk : BS Tryz.prog 50 (fun i => [(0, 1), (1, 1)][i]?) [.int .u64 0, .int .u64 0] := Tv Tryz.underlying50 Ug ⟨rfl, (Xm).siz, rfl, (Xm).siz, trivial⟩
theorem Qyy : En Tryz.prog 272 := fun _ _ => by kernel_rfl
theorem Qyx : En Tryz.prog 271 := fun _ _ => by kernel_rfl
theorem Qyz : En Tryz.prog 274 := fun _ _ => by kernel_rfl
theorem Qyf : En Tryz.prog 193 := fun _ _ => by kernel_rfl
theorem Qsx {p0 r} (hm : Qbo p0 = some r) {w : World} :
    Calls Tryz.prog 357 [wv p0].toArray w fun e w' => ∃ v, e = .returned v ∧ (v = .bool r ∧ Gr w w') := by
 unfold Qbo at hm
 refine Xe 21 Tryz.func357 rfl rfl rfl<|qs 1 rfl<|qm rfl<|Qa<|Qe<|qj (β := Bool) (rg 4 6) (fun a1 => [(9, .bool a1)]) (fun a1 wr => (Qf3 p0 a1 = some r) ∧ Kz [] w wr) ?_ ?_
 · refine qg 6 rfl<|qm rfl<|qv rfl (Nr (c := p0) (d := 2#64) rfl rfl)<|qp rfl (Qm rfl) (fun c4 => ?_) (fun c4 => ?_)
   · replace hm := iT c4 hm
     refine qk rfl<|qk rfl<|qm rfl<|Qh ?_
     exact ⟨rfl, true, Qf, hm, Qz⟩
   replace hm := iF c4 hm
   refine qm rfl<|qv rfl (Oj (c := p0) (d := 1048575#64) rfl rfl)<|qm rfl<|Qh ?_
   exact ⟨rfl, (decide (1048575#64 < p0)), Qf, hm, Qz⟩
 clear hm; rintro a1 w1 ⟨hm, K1⟩
 unfold Qf3 at hm
 refine Xj rfl (fun c1 => ?_) (fun c1 => ?_)
 · replace hm := Xx c1 hm
   refine qs 1 rfl<|qm rfl<|qb ?_
   have X2 := ((Gr.refl w).kz K1)
   cases hm
   refine ⟨_, _, rfl, Qt rfl (Qg rfl), ?_⟩
   exact ⟨rfl, X2⟩
 replace hm := Xw c1 hm
 refine qu<|Qe<|qs 1 rfl<|qm rfl<|Qa<|Xi ?_
 have X3 := ((Gr.refl w).kz K1)
 refine Zq (α := Nat × BitVec 64) ([2, 3] ++ rg 10 11) (fun ⟨n2, a3⟩ => [(2, .bool false), (3, wv a3)]) (fun ⟨n2, a3⟩ wr => (Qr (Qf4 p0) n2 a3 = some r) ∧ Kz [] w1 wr) (fun ⟨n2, a3⟩ => n2) ⟨Xb, 2#64⟩ ?_ ?_ ?_
 · exact Qf
 · exact ⟨hm, Kz.refl _ _⟩
 clear hm; rintro ⟨n2, a3⟩ w2 ⟨hm, K2⟩
 have hb := Zx hm; clear hm; obtain ⟨n2, rfl, hm⟩ := hb
 generalize f : Qr (Qf4 p0) n2 = h at hm
 unfold Qf4 at hm
 try dsimp only at hm
 refine Qe<|qs 5 rfl<|qm rfl<|qm rfl<|qv rfl (Pw (a := a3) (b := a3) rfl rfl)<|qm rfl<|qv rfl (Qvi (c := a3 * a3) (d := p0) rfl rfl)<|Qa<|Zu rfl (fun c2 => ?_) (fun c2 => ?_)
 · replace hm := iF c2 hm
   refine Zl<|Xk<|Xk<|Zk<|Xl<|qs 1 rfl<|qm rfl<|Qa<|Qo ?_
   have X7 := (X3.kz K2)
   cases hm
   refine ⟨_, _, rfl, Qt rfl (Qg rfl), ?_⟩
   exact ⟨rfl, X7⟩
 replace hm := iT c2 hm
 refine qu<|Qe<|Xi<|qs 4 rfl<|qm rfl<|qm rfl ?_
 obtain ⟨x4, g, hm⟩ := Qc hm
 refine qv rfl (Vm (c := p0) (d := a3) rfl rfl g)<|qv rfl (Tp (c := x4) (d := 0#64) rfl rfl)<|Qa<|Xj rfl (fun c3 => ?_) (fun c3 => ?_)
 · replace hm := iT c3 hm
   refine qs 1 rfl<|qm rfl<|Qa<|Qo<|Zz<|Zf<|Zf<|Zz<|Zf ?_
   have X5 := (X3.kz K2)
   cases hm
   refine ⟨_, _, rfl, Qt rfl (Qg rfl), ?_⟩
   exact ⟨rfl, X5⟩
 replace hm := iF c3 hm
 refine Vi<|Xy<|Xl<|qg 3 rfl<|qm rfl<|qv rfl (Te (a := a3) (b := 1#64) rfl rfl)<|qm rfl<|Qh ?_
 have K_6 : Kz [] w1 w2 := K2
 subst f
 exact ⟨rfl, ⟨n2, a3 + 1#64⟩, Qf, ⟨hm, K_6⟩, Nat.lt_succ_self _⟩
theorem Qsw {p0 p1 p2 r} (hm : Qbn p0 p1 p2 = some r) {w : World} :
    Calls Tryz.prog 358 [wv p0, wv p1, wv p2].toArray w fun e w' => ∃ v, e = .returned v ∧ (v = wv r ∧ Gr w w') := by
 unfold Qbn at hm
 refine Xe 31 Tryz.func358 rfl rfl rfl<|qs 1 rfl<|qm rfl<|qd 3 rfl<|qm rfl ?_
 obtain ⟨x1, i, hm⟩ := Qc hm
 refine qv rfl (Vm (c := 1#64) (d := p2) rfl rfl i)<|qm rfl<|Qa<|Qe<|qs 4 rfl<|qm rfl<|qm rfl ?_
 obtain ⟨x2, j, hm⟩ := Qc hm
 refine qv rfl (Vm (c := p0) (d := p2) rfl rfl j)<|qm rfl<|Qa<|Xi<|Zq (α := Nat × BitVec 64 × BitVec 64 × BitVec 64) ([0, 1, 7] ++ rg 13 17) (fun ⟨n1, a6, a7, a8⟩ => [(0, wv a6), (1, wv a7), (7, wv a8)]) (fun ⟨n1, a6, a7, a8⟩ wr => (Qr (Ad p2) n1 (a6, a7, a8) = some r) ∧ Kz [] w wr) (fun ⟨n1, a6, a7, a8⟩ => n1) ⟨Xb, x2, p1, x1⟩ ?_ ?_ ?_
 · exact Qf
 · exact ⟨hm, Kz.refl _ _⟩
 clear hm; rintro ⟨n1, a6, a7, a8⟩ w1 ⟨hm, K1⟩
 have hb := Zx hm; clear hm; obtain ⟨n1, rfl, hm⟩ := hb
 generalize f : Qr (Ad p2) n1 = n at hm
 unfold Ad at hm
 try dsimp only at hm
 refine Qe<|qs 2 rfl<|qm rfl<|qv rfl (Oj (c := a7) (d := 0#64) rfl rfl)<|Qa<|Zu rfl (fun c1 => ?_) (fun c1 => ?_)
 · replace hm := iF c1 hm
   refine Zl<|Xk<|Xk<|Zk<|Xl<|qs 2 rfl<|qm rfl<|qm rfl<|Qa<|Qo ?_
   have X4 := ((Gr.refl w).kz K1)
   cases hm
   refine ⟨_, _, rfl, Qt rfl (Qg rfl), ?_⟩
   exact ⟨rfl, X4⟩
 replace hm := iT c1 hm
 refine qu<|Qe<|Xi<|Qe<|qs 3 rfl<|qm rfl<|qv rfl (Xi7 (a := a7) (b := 1#64) rfl rfl)<|qv rfl (Tp (c := a7 &&& 1#64) (d := 1#64) rfl rfl)<|Qa<|Zu rfl (fun c2 => ?_) (fun c2 => ?_)
 · replace hm := iF c2 hm
   refine qu<|qg 6 rfl<|qm rfl<|qm rfl<|qv rfl (Pw (a := a6) (b := a6) rfl rfl)<|qm rfl ?_
   obtain ⟨k, g, hm⟩ := Qc hm
   refine qv rfl (Vm (c := a6 * a6) (d := p2) rfl rfl g)<|qm rfl<|Qh<|Xy<|Xl<|qg 3 rfl<|qm rfl ?_
   obtain ⟨nn13, hnn13, hm⟩ := Qc hm
   refine qv rfl (Om (c := a7) (b := (un 1#64)) rfl rfl hnn13)<|qm rfl<|Qh ?_
   have K_3 : Kz [] w w1 := K1
   subst f
   exact ⟨rfl, ⟨n1, k, a7 >>> nn13, a8⟩, Qf, ⟨hm, K_3⟩, Nat.lt_succ_self _⟩
 replace hm := iT c2 hm
 refine qg 6 rfl<|qm rfl<|qm rfl<|qv rfl (Pw (a := a8) (b := a6) rfl rfl)<|qm rfl ?_
 obtain ⟨x9, l, hm⟩ := Qc hm
 refine qv rfl (Vm (c := a8 * a6) (d := p2) rfl rfl l)<|qm rfl<|Qa<|qg 6 rfl<|qm rfl<|qm rfl<|qv rfl (Pw (a := a6) (b := a6) rfl rfl)<|qm rfl ?_
 obtain ⟨m, h, hm⟩ := Qc hm
 refine qv rfl (Vm (c := a6 * a6) (d := p2) rfl rfl h)<|qm rfl<|Qh<|Xy<|Xl<|qg 3 rfl<|qm rfl ?_
 obtain ⟨nn11, hnn11, hm⟩ := Qc hm
 refine qv rfl (Om (c := a7) (b := (un 1#64)) rfl rfl hnn11)<|qm rfl<|Qh ?_
 have K_2 : Kz [] w w1 := K1
 subst f
 exact ⟨rfl, ⟨n1, m, a7 >>> nn11, x9⟩, Qf, ⟨hm, K_2⟩, Nat.lt_succ_self _⟩
theorem Xcx {p0 r} (hm : Qf1 p0 = some r) {w : World} :
    Calls Tryz.prog 316 [.agg (Ko.cs p0).toArray].toArray w fun e w' => ∃ v, e = .returned v ∧ (v = .int .i64 r ∧ Gr w w') := by
 unfold Qf1 at hm
 refine Xe 44 Tryz.func316 rfl rfl rfl<|qs 2 rfl<|qe rfl (Qy (cs := Ko.cs p0) rfl rfl) ?_
 rintro _ w1 ⟨b1, rfl, l, g, G1⟩
 refine qm rfl<|Qa<|Qe ?_
 have X3 := ((Gr.refl w).trans G1)
 refine qj (β := Bool) (rg 3 41) (fun a1 => [(43, .bool a1)]) (fun a1 wr => (Re a1 = some r) ∧ Kz [] w1 wr) ?_ ?_
 · refine qg 41 rfl<|qv rfl (Qb Dh rfl)<|qv rfl (Qd (v := wv p0.P) Xm rfl g rfl) ?_
   obtain ⟨x2, h, hm⟩ := Qc hm
   refine qe rfl (eC Qqu rfl (Qsx h)) ?_
   rintro _ w3 ⟨rfl, G3⟩
   refine qv rfl (Jb rfl)<|qp rfl (Qm rfl) (fun c2 => ?_) (fun c2 => ?_)
   · replace hm := Xx c2 hm
     refine qk rfl<|qk rfl<|qk rfl<|qk rfl<|qm rfl<|qm rfl<|qk rfl<|qk rfl<|qk rfl<|qk rfl<|qk rfl<|qk rfl<|qk rfl<|qm rfl<|qm rfl<|qk rfl<|qk rfl<|qk rfl<|qm rfl<|qm rfl<|qk rfl<|qk rfl<|qk rfl<|qk rfl<|qk rfl ?_
     refine qm rfl<|qm rfl<|qk rfl<|qk rfl<|qk rfl<|qk rfl<|qk rfl<|qk rfl<|qk rfl<|qk rfl<|qm rfl<|Qh ?_
     exact ⟨rfl, true, Qf, hm, (Qz.gr G3)⟩
   replace hm := Xw c2 hm
   refine qv rfl (Qb Hu rfl) ?_
   have B9 := (g.gr G3)
   refine qv rfl (Qd (v := wv p0.Q) Xm rfl B9 rfl) ?_
   obtain ⟨x3, i, hm⟩ := Qc hm
   refine qe rfl (eC Qqu rfl (Qsx i)) ?_
   rintro _ w4 ⟨rfl, G4⟩
   refine qv rfl (Jb rfl)<|qm rfl<|qp rfl (Qm rfl) (fun c3 => ?_) (fun c3 => ?_)
   · replace hm := Xx c3 hm
     refine qk rfl<|qk rfl<|qk rfl<|qk rfl<|qk rfl<|qk rfl<|qk rfl<|qm rfl<|qm rfl<|qk rfl<|qk rfl<|qk rfl<|qm rfl<|qm rfl<|qk rfl<|qk rfl<|qk rfl<|qk rfl<|qk rfl<|qm rfl<|qm rfl<|qk rfl<|qk rfl<|qk rfl<|qk rfl ?_
     refine qk rfl<|qk rfl<|qk rfl<|qk rfl<|qm rfl<|Qh ?_
     have Y1 := Gr.trans G3 G4
     exact ⟨rfl, true, Qf, hm, (Qz.gr Y1)⟩
   replace hm := Xw c3 hm
   refine qv rfl (Qb Dh rfl) ?_
   have f := (B9.gr G4)
   refine qv rfl (Qd (v := wv p0.P) Xm rfl f rfl)<|qv rfl (Mw (a := p0.P) (b := 1#64) rfl rfl)<|qv rfl (Qb Hu rfl)<|qv rfl (Qd (v := wv p0.Q) Xm rfl f rfl) ?_
   obtain ⟨x4, j, hm⟩ := Qc hm
   refine qv rfl (Vm (c := p0.P - 1#64) (d := p0.Q) rfl rfl j)<|qv rfl (Ok (c := x4) (d := 0#64) rfl rfl)<|qm rfl<|qp rfl (Qm rfl) (fun c4 => ?_) (fun c4 => ?_)
   · replace hm := iT c4 hm
     refine qk rfl<|qk rfl<|qk rfl<|qm rfl<|qm rfl<|qk rfl<|qk rfl<|qk rfl<|qk rfl<|qk rfl<|qm rfl<|qm rfl<|qk rfl<|qk rfl<|qk rfl<|qk rfl<|qk rfl<|qk rfl<|qk rfl<|qk rfl<|qm rfl<|Qh ?_
     have Y2 := Gr.trans G3 G4
     exact ⟨rfl, true, Qf, hm, (Qz.gr Y2)⟩
   replace hm := iF c4 hm
   refine qv rfl (Qb Qb6 rfl)<|qv rfl (Qd (v := wv p0.G) Xm rfl f rfl)<|qv rfl (Nr (c := p0.G) (d := 2#64) rfl rfl)<|qm rfl<|qp rfl (Qm rfl) (fun c5 => ?_) (fun c5 => ?_)
   · replace hm := iT c5 hm
     refine qk rfl<|qk rfl<|qk rfl<|qk rfl<|qk rfl<|qm rfl<|qm rfl<|qk rfl<|qk rfl<|qk rfl<|qk rfl<|qk rfl<|qk rfl<|qk rfl<|qk rfl<|qm rfl<|Qh ?_
     have Y3 := Gr.trans G3 G4
     exact ⟨rfl, true, Qf, hm, (Qz.gr Y3)⟩
   replace hm := iF c5 hm
   refine qv rfl (Qb Qb6 rfl)<|qv rfl (Qd (v := wv p0.G) Xm rfl f rfl)<|qv rfl (Qb Dh rfl)<|qv rfl (Qd (v := wv p0.P) Xm rfl f rfl)<|qv rfl (Np (c := p0.G) (d := p0.P) rfl rfl)<|qm rfl<|qp rfl (Qm rfl) (fun c6 => ?_) (fun c6 => ?_)
   · replace hm := iT c6 hm
     refine qk rfl<|qk rfl<|qk rfl<|qk rfl<|qk rfl<|qk rfl<|qk rfl<|qk rfl<|qm rfl<|Qh ?_
     have Y4 := Gr.trans G3 G4
     exact ⟨rfl, true, Qf, hm, (Qz.gr Y4)⟩
   replace hm := iF c6 hm
   refine qv rfl (Qb Qb6 rfl)<|qv rfl (Qd (v := wv p0.G) Xm rfl f rfl)<|qv rfl (Qb Hu rfl)<|qv rfl (Qd (v := wv p0.Q) Xm rfl f rfl)<|qv rfl (Qb Dh rfl)<|qv rfl (Qd (v := wv p0.P) Xm rfl f rfl) ?_
   obtain ⟨x5, k, hm⟩ := Qc hm
   refine qe rfl (eC Qqv rfl (Qsw k)) ?_
   rintro _ w5 ⟨rfl, G5⟩
   refine qv rfl (Ok (c := x5) (d := 1#64) rfl rfl)<|qm rfl<|Qh ?_
   exact ⟨rfl, (decide (x5 ≠ 1#64)), Qf, hm, (((Qz.gr G3).gr G4).gr G5)⟩
 clear hm; rintro a1 w2 ⟨hm, K2⟩
 unfold Re at hm
 refine Xj rfl (fun c1 => ?_) (fun c1 => ?_)
 · replace hm := Xx c1 hm
   refine qs 1 rfl<|qm rfl<|qb ?_
   have X5 := (X3.kz K2)
   cases hm
   refine ⟨_, _, rfl, Qt rfl (Qg rfl), ?_⟩
   exact ⟨rfl, X5⟩
 replace hm := Xw c1 hm
 refine qu<|qs 1 rfl<|qm rfl<|Qa<|Qo ?_
 have X6 := (X3.kz K2)
 cases hm
 refine ⟨_, _, rfl, Qt rfl (Qg rfl), ?_⟩
 exact ⟨rfl, X6⟩
theorem Qnb {p0 r} (hm : Ri p0 = some r) {w : World} :
    Calls Tryz.prog 212 [.agg (Qs.cs p0).toArray].toArray w fun e w' => ∃ v, e = .returned v ∧ (v = .bool r ∧ Gr w w') := by
 unfold Ri at hm
 refine Xe 45 Tryz.func212 rfl rfl rfl<|qs 2 rfl<|qe rfl (Qy (cs := Qs.cs p0) rfl rfl) ?_
 rintro _ w1 ⟨b1, rfl, l, f, G1⟩
 refine qm rfl<|Qa<|Qe<|dw [([])] [] (.leaf [(0,10),(1,10),(2,10),(3,10),(4,10),(5,10),(6,10),(7,10),(8,10),(9,10),(10,10),(11,10),(12,10),(13,10),(14,10),(15,10),(16,10),(17,10),(18,10),(19,10),(20,10),(21,10),(22,10),(23,10),(24,10),(25,10),(26,0),(27,10),(28,10),(29,10),(30,10),(31,10),(32,10),(33,10),(34,10),(35,10),(36,10),(37,10),(38,10),(39,10),(40,10),(41,10),(42,10)]) ?_
 intro w2 G2 m
 refine Zj<|dh 0 rfl rfl (fun w hS => Qb Yg rfl) ?_
 have B3 := (f.gr G2)
 refine dh 0 rfl rfl (fun w hS => Qd (v := bv p0.Kind) Xs rfl (Bx.kp B3 hS) rfl)<|dh 0 rfl rfl (fun w hS => Yz (p := p0.Kind) (q := 4#8) rfl rfl)<|Nh 0 rfl rfl (Kp.refl ([]) w2) (fun w hS => Qm rfl) (fun c1 => ?_) (fun c1 => ?_)
 · replace hm := iF c1 hm
   refine dx 0 rfl rfl<|dx 0 rfl rfl<|dx 0 rfl rfl<|dm 0 rfl rfl<|dm 0 rfl rfl<|dx 0 rfl rfl<|dx 0 rfl rfl<|dx 0 rfl rfl<|dm 0 rfl rfl<|dm 0 rfl rfl<|dx 0 rfl rfl<|dx 0 rfl rfl<|dx 0 rfl rfl<|dm 0 rfl rfl<|dm 0 rfl rfl<|dx 0 rfl rfl<|dx 0 rfl rfl<|dx 0 rfl rfl<|dm 0 rfl rfl<|dm 0 rfl rfl<|dx 0 rfl rfl<|dx 0 rfl rfl<|qy rfl<|dx 0 rfl rfl<|dm 0 rfl rfl ?_
   refine dm 0 rfl rfl<|dx 0 rfl rfl<|dx 0 rfl rfl<|dx 0 rfl rfl<|dx 0 rfl rfl<|dx 0 rfl rfl<|dx 0 rfl rfl<|dx 0 rfl rfl<|dx 0 rfl rfl<|dx 0 rfl rfl<|dx 0 rfl rfl<|dx 0 rfl rfl<|dm 0 rfl rfl<|dm 0 rfl rfl<|Qa<|Qo ?_
   have Y1 := Gr.trans G1 G2
   have g := ((Gr.refl w).trans Y1)
   cases hm
   refine ⟨_, _, rfl, Qt rfl (Qg rfl), ?_⟩
   exact ⟨rfl, g⟩
 replace hm := iT c1 hm
 refine dh 0 rfl rfl (fun w hS => Qb Wu rfl)<|dh 0 rfl rfl (fun w hS => Qd (v := .int .i64 p0.Depth) Qv rfl (Bx.kp B3 hS) rfl)<|dh 0 rfl rfl (fun w hS => Kl (a := p0.Depth) (b := 0) rfl rfl)<|dm 0 rfl rfl<|Nh 0 rfl rfl (Kp.refl ([]) w2) (fun w hS => Qm rfl) (fun c2 => ?_) (fun c2 => ?_)
 · replace hm := iF c2 hm
   refine dx 0 rfl rfl<|dx 0 rfl rfl<|dx 0 rfl rfl<|dm 0 rfl rfl<|dm 0 rfl rfl<|dx 0 rfl rfl<|dx 0 rfl rfl<|dx 0 rfl rfl<|dm 0 rfl rfl<|dm 0 rfl rfl<|dx 0 rfl rfl<|dx 0 rfl rfl<|dx 0 rfl rfl<|dm 0 rfl rfl<|dm 0 rfl rfl<|dx 0 rfl rfl<|dx 0 rfl rfl<|qy rfl<|dx 0 rfl rfl<|dm 0 rfl rfl<|dm 0 rfl rfl<|dx 0 rfl rfl<|dx 0 rfl rfl<|dx 0 rfl rfl<|dx 0 rfl rfl ?_
   refine dx 0 rfl rfl<|dx 0 rfl rfl<|dx 0 rfl rfl<|dx 0 rfl rfl<|dx 0 rfl rfl<|dx 0 rfl rfl<|dx 0 rfl rfl<|dm 0 rfl rfl<|dm 0 rfl rfl<|Qa<|Qo ?_
   have Y2 := Gr.trans G1 G2
   have h := ((Gr.refl w).trans Y2)
   cases hm
   refine ⟨_, _, rfl, Qt rfl (Qg rfl), ?_⟩
   exact ⟨rfl, h⟩
 replace hm := iT c2 hm
 refine dh 0 rfl rfl (fun w hS => Qb Wu rfl)<|dh 0 rfl rfl (fun w hS => Qd (v := .int .i64 p0.Depth) Qv rfl (Bx.kp B3 hS) rfl)<|dh 0 rfl rfl (fun w hS => Pf (a := p0.Depth) (b := 6) rfl rfl)<|dm 0 rfl rfl<|Nh 0 rfl rfl (Kp.refl ([]) w2) (fun w hS => Qm rfl) (fun c3 => ?_) (fun c3 => ?_)
 · replace hm := iF c3 hm
   refine dx 0 rfl rfl<|dx 0 rfl rfl<|dx 0 rfl rfl<|dm 0 rfl rfl<|dm 0 rfl rfl<|dx 0 rfl rfl<|dx 0 rfl rfl<|dx 0 rfl rfl<|dm 0 rfl rfl<|dm 0 rfl rfl<|dx 0 rfl rfl<|dx 0 rfl rfl<|qy rfl<|dx 0 rfl rfl<|dm 0 rfl rfl<|dm 0 rfl rfl<|dx 0 rfl rfl<|dx 0 rfl rfl<|dx 0 rfl rfl<|dx 0 rfl rfl<|dx 0 rfl rfl<|dx 0 rfl rfl<|dx 0 rfl rfl<|dx 0 rfl rfl<|dx 0 rfl rfl ?_
   refine dx 0 rfl rfl<|dx 0 rfl rfl<|dm 0 rfl rfl<|dm 0 rfl rfl<|Qa<|Qo ?_
   have Y3 := Gr.trans G1 G2
   have i := ((Gr.refl w).trans Y3)
   cases hm
   refine ⟨_, _, rfl, Qt rfl (Qg rfl), ?_⟩
   exact ⟨rfl, i⟩
 replace hm := iT c3 hm
 refine dh 0 rfl rfl (fun w hS => Qb La rfl)<|dh 0 rfl rfl (fun w hS => Qd (v := .int .i64 p0.Degree) Qv rfl (Bx.kp B3 hS) rfl)<|dh 0 rfl rfl (fun w hS => Kl (a := p0.Degree) (b := 1) rfl rfl)<|dm 0 rfl rfl<|Nh 0 rfl rfl (Kp.refl ([]) w2) (fun w hS => Qm rfl) (fun c4 => ?_) (fun c4 => ?_)
 · replace hm := iF c4 hm
   refine dx 0 rfl rfl<|dx 0 rfl rfl<|dx 0 rfl rfl<|dm 0 rfl rfl<|dm 0 rfl rfl<|dx 0 rfl rfl<|dx 0 rfl rfl<|qy rfl<|dx 0 rfl rfl<|dm 0 rfl rfl<|dm 0 rfl rfl<|dx 0 rfl rfl<|dx 0 rfl rfl<|dx 0 rfl rfl<|dx 0 rfl rfl<|dx 0 rfl rfl<|dx 0 rfl rfl<|dx 0 rfl rfl<|dx 0 rfl rfl<|dx 0 rfl rfl<|dx 0 rfl rfl<|dx 0 rfl rfl<|dm 0 rfl rfl<|dm 0 rfl rfl<|Qa ?_
   refine Qo ?_
   have Y4 := Gr.trans G1 G2
   have X9 := ((Gr.refl w).trans Y4)
   cases hm
   refine ⟨_, _, rfl, Qt rfl (Qg rfl), ?_⟩
   exact ⟨rfl, X9⟩
 replace hm := iT c4 hm
 refine dh 0 rfl rfl (fun w hS => Qb La rfl)<|dh 0 rfl rfl (fun w hS => Qd (v := .int .i64 p0.Degree) Qv rfl (Bx.kp B3 hS) rfl)<|dh 0 rfl rfl (fun w hS => Pf (a := p0.Degree) (b := 8) rfl rfl)<|dm 0 rfl rfl<|Nh 0 rfl rfl (Kp.refl ([]) w2) (fun w hS => Qm rfl) (fun c5 => ?_) (fun c5 => ?_)
 · replace hm := iF c5 hm
   refine dx 0 rfl rfl<|dx 0 rfl rfl<|qy rfl<|dx 0 rfl rfl<|dm 0 rfl rfl<|dm 0 rfl rfl<|dx 0 rfl rfl<|dx 0 rfl rfl<|dx 0 rfl rfl<|dx 0 rfl rfl<|dx 0 rfl rfl<|dx 0 rfl rfl<|dx 0 rfl rfl<|dx 0 rfl rfl<|dx 0 rfl rfl<|dx 0 rfl rfl<|dx 0 rfl rfl<|dm 0 rfl rfl<|dm 0 rfl rfl<|Qa<|Qo ?_
   have Y5 := Gr.trans G1 G2
   have X8 := ((Gr.refl w).trans Y5)
   cases hm
   refine ⟨_, _, rfl, Qt rfl (Qg rfl), ?_⟩
   exact ⟨rfl, X8⟩
 replace hm := iT c5 hm
 refine dh 0 rfl rfl (fun w hS => Qb Wz rfl)<|dh 0 rfl rfl (fun w hS => Zy (vs := Ko.cs p0.Group) Ou rfl (Bx.kp B3 hS) rfl rfl) ?_
 obtain ⟨x1, j, hm⟩ := Qc hm
 refine qz [] rfl (eC Qzc rfl (Xcx j)) ⟨fun _ => Qj, trivial⟩ ?_
 rintro _ w3 ⟨rfl, G3⟩
 refine kG G3 ?_
 have S5 := ((Kp.refl ([]) w2).gr G3)
 refine qh 0 rfl rfl S5 (fun w hS => Jr (a := x1) (b := 0) rfl rfl)<|dn 0 rfl rfl S5<|Nh 0 rfl rfl S5 (fun w hS => Qm rfl) (fun c6 => ?_) (fun c6 => ?_)
 · replace hm := iF c6 hm
   refine qx 0 rfl rfl S5<|qx 0 rfl rfl S5<|qx 0 rfl rfl S5<|qx 0 rfl rfl S5<|qx 0 rfl rfl S5<|qx 0 rfl rfl S5<|qx 0 rfl rfl S5<|qx 0 rfl rfl S5<|qx 0 rfl rfl S5<|qx 0 rfl rfl S5<|qx 0 rfl rfl S5<|dn 0 rfl rfl S5<|dn 0 rfl rfl S5<|Qa<|Qo ?_
   have X7 := ((((Gr.refl w).trans G1).trans G2).trans G3)
   cases hm
   refine ⟨_, _, rfl, Qt rfl (Qg rfl), ?_⟩
   exact ⟨rfl, X7⟩
 replace hm := iT c6 hm
 refine qh 0 rfl rfl S5 (fun w hS => Qb Wz rfl)<|qh 0 rfl rfl S5 (fun w hS => Qb Hu rfl)<|qh 0 rfl rfl S5 (fun w hS => Qd (v := wv p0.Group.Q) Xm rfl (Bx.kp B3 hS) rfl)<|qh 0 rfl rfl S5 (fun w hS => Qb Wu rfl)<|qh 0 rfl rfl S5 (fun w hS => Qd (v := .int .i64 p0.Depth) Qv rfl (Bx.kp B3 hS) rfl) ?_
 obtain ⟨nn2, hnn2, hm⟩ := Qc hm
 refine qh 0 rfl rfl S5 (fun w hS => Qh7 (a := 1) (b := p0.Depth) rfl rfl hnn2)<|qh 0 rfl rfl S5 (fun w hS => Qb La rfl)<|qh 0 rfl rfl S5 (fun w hS => Qd (v := .int .i64 p0.Degree) Qv rfl (Bx.kp B3 hS) rfl)<|qh 0 rfl rfl S5 (fun w hS => Zg (k := .i64) (a := Pc 1 nn2) (b := p0.Degree) rfl rfl)<|qh 0 rfl rfl S5 (fun w hS => Yb Ye rfl)<|qh 0 rfl rfl S5 (fun w hS => Oj (c := p0.Group.Q) (d := wd (Qi ((Pc 1 nn2) + p0.Degree))) rfl rfl)<|dn 0 rfl rfl S5<|dn 0 rfl rfl S5<|Qa<|Qo ?_
 have X6 := ((((Gr.refl w).trans G1).trans G2).trans G3)
 cases hm
 refine ⟨_, _, rfl, Qt rfl (Qg rfl), ?_⟩
 exact ⟨rfl, X6⟩
theorem Qna {p0 r} (hm : Rf p0 = some r) {w : World} :
    Calls Tryz.prog 132 [.agg (Qs.cs p0).toArray].toArray w fun e w' => ∃ v, e = .returned v ∧ (v = .int .i64 r ∧ Gr w w') := by
 unfold Rf at hm
 refine Xe 6 Tryz.func132 rfl rfl rfl<|qs 2 rfl<|qe rfl (Qy (cs := Qs.cs p0) rfl rfl) ?_
 rintro _ w1 ⟨b1, rfl, c, a, G1⟩
 refine qm rfl<|Qa<|Qe<|qs 3 rfl<|qv rfl (Qp Zw rfl a rfl) ?_
 obtain ⟨x1, b, hm⟩ := Qc hm
 refine qe rfl (eC Qlr rfl (Qnb b)) ?_
 rintro _ w2 ⟨rfl, G2⟩
 refine qv rfl (Jb rfl)<|Qa<|Xj rfl (fun c1 => ?_) (fun c1 => ?_)
 · replace hm := Xx c1 hm
   refine qs 1 rfl<|qm rfl<|qb ?_
   have X4 := (((Gr.refl w).trans G1).trans G2)
   cases hm
   refine ⟨_, _, rfl, Qt rfl (Qg rfl), ?_⟩
   exact ⟨rfl, X4⟩
 replace hm := Xw c1 hm
 refine qu<|qs 1 rfl<|qm rfl<|Qa<|Qo ?_
 have X5 := (((Gr.refl w).trans G1).trans G2)
 cases hm
 refine ⟨_, _, rfl, Qt rfl (Qg rfl), ?_⟩
 exact ⟨rfl, X5⟩
theorem Qtr {p0 r} (hm : Qfl p0 = some r) {w : World} :
    Calls Tryz.prog 343 [wv p0].toArray w fun e w' => ∃ v, e = .returned v ∧ (v = .bool r ∧ Gr w w') := by
 unfold Qfl at hm
 refine Xe 17 Tryz.func343 rfl rfl rfl<|qs 1 rfl<|qm rfl<|Qa<|Qe<|qs 1 rfl<|qm rfl<|Qa<|Xi<|Zq (α := Nat × BitVec 64) (rg 2 13) (fun ⟨n1, a2⟩ => [(2, .bool false), (3, wv a2)]) (fun ⟨n1, a2⟩ wr => (Qr (Qfm p0) n1 a2 = some r) ∧ Kz [] w wr) (fun ⟨n1, a2⟩ => n1) ⟨Xb, 2#64⟩ ?_ ?_ ?_
 · exact Qf
 · exact ⟨hm, Kz.refl _ _⟩
 clear hm; rintro ⟨n1, a2⟩ w1 ⟨hm, K1⟩
 have hb := Zx hm; clear hm; obtain ⟨n1, rfl, hm⟩ := hb
 generalize f : Qr (Qfm p0) n1 = h at hm
 unfold Qfm at hm
 try dsimp only at hm
 refine Qe<|qs 5 rfl<|qm rfl<|qm rfl<|qv rfl (Pw (a := a2) (b := a2) rfl rfl)<|qm rfl<|qv rfl (Qvi (c := a2 * a2) (d := p0) rfl rfl)<|Qa<|Zu rfl (fun c1 => ?_) (fun c1 => ?_)
 · replace hm := iF c1 hm
   refine Zl<|Xk<|Xk<|Zk<|Xl<|qs 3 rfl<|qm rfl<|qv rfl (Np (c := p0) (d := 2#64) rfl rfl)<|qm rfl<|Qa<|Qo ?_
   have X4 := ((Gr.refl w).kz K1)
   cases hm
   refine ⟨_, _, rfl, Qt rfl (Qg rfl), ?_⟩
   exact ⟨rfl, X4⟩
 replace hm := iT c1 hm
 refine qu<|Qe<|Xi<|qs 4 rfl<|qm rfl<|qm rfl ?_
 obtain ⟨x3, g, hm⟩ := Qc hm
 refine qv rfl (Vm (c := p0) (d := a2) rfl rfl g)<|qv rfl (Tp (c := x3) (d := 0#64) rfl rfl)<|Qa<|Xj rfl (fun c2 => ?_) (fun c2 => ?_)
 · replace hm := iT c2 hm
   refine qs 1 rfl<|qm rfl<|Qa<|Qo<|Zz<|Zf<|Zf<|Zz<|Zf ?_
   have X2 := ((Gr.refl w).kz K1)
   cases hm
   refine ⟨_, _, rfl, Qt rfl (Qg rfl), ?_⟩
   exact ⟨rfl, X2⟩
 replace hm := iF c2 hm
 refine Vi<|Xy<|Xl<|qg 3 rfl<|qm rfl<|qv rfl (Te (a := a2) (b := 1#64) rfl rfl)<|qm rfl<|Qh ?_
 have K_3 : Kz [] w w1 := K1
 subst f
 exact ⟨rfl, ⟨n1, a2 + 1#64⟩, Qf, ⟨hm, K_3⟩, Nat.lt_succ_self _⟩
theorem Qnl {p0 p1 p2 r} (hm : Ap p0 p1 p2 = some r) {w : World} :
    Calls Tryz.prog 273 [wv p0, wv p1, wv p2].toArray w fun e w' => ∃ v, e = .returned v ∧ (v = wv r ∧ Gr w w') := by
 unfold Ap at hm
 refine Xe 32 Tryz.func273 rfl rfl rfl<|qs 1 rfl<|qm rfl<|qd 3 rfl<|qm rfl ?_
 obtain ⟨x1, l, hm⟩ := Qc hm
 refine qv rfl (Vm (c := 1#64) (d := p2) rfl rfl l)<|qm rfl<|qd 4 rfl<|qm rfl<|qm rfl ?_
 obtain ⟨x2, m, hm⟩ := Qc hm
 refine qv rfl (Vm (c := p0) (d := p2) rfl rfl m)<|qm rfl<|Qa<|Qe<|Xi<|Zq (α := Nat × BitVec 64 × BitVec 64 × BitVec 64) ([1, 7, 8] ++ rg 14 17) (fun ⟨n1, a6, a7, a8⟩ => [(1, wv a6), (7, wv a7), (8, wv a8)]) (fun ⟨n1, a6, a7, a8⟩ wr => (Qr (Aq p2) n1 (a6, a7, a8) = some r) ∧ Kz [] w wr) (fun ⟨n1, a6, a7, a8⟩ => n1) ⟨Xb, p1, x1, x2⟩ ?_ ?_ ?_
 · exact Qf
 · exact ⟨hm, Kz.refl _ _⟩
 clear hm; rintro ⟨n1, a6, a7, a8⟩ w1 ⟨hm, K1⟩
 have hb := Zx hm; clear hm; obtain ⟨n1, rfl, hm⟩ := hb
 generalize f : Qr (Aq p2) n1 = g at hm
 unfold Aq at hm
 try dsimp only at hm
 refine Qe<|qs 2 rfl<|qm rfl<|qv rfl (Oj (c := a6) (d := 0#64) rfl rfl)<|Qa<|Zu rfl (fun c1 => ?_) (fun c1 => ?_)
 · replace hm := iF c1 hm
   refine Zl<|Xk<|Xk<|Zk<|Xl<|qs 2 rfl<|qm rfl<|qm rfl<|Qa<|Qo ?_
   have X7 := ((Gr.refl w).kz K1)
   cases hm
   refine ⟨_, _, rfl, Qt rfl (Qg rfl), ?_⟩
   exact ⟨rfl, X7⟩
 replace hm := iT c1 hm
 refine qu<|Xi ?_
 refine qj (β := BitVec 64) ([7] ++ rg 16 8) (fun a9 => [(7, wv a9)]) (fun a9 wr => (Qfn p2 a6 a8 g a9 = some r) ∧ Kz [] w1 wr) ?_ ?_
 · refine qs 3 rfl<|qm rfl ?_
   obtain ⟨n, h, hm⟩ := Qc hm
   refine qv rfl (Vm (c := a6) (d := 2#64) rfl rfl h)<|qv rfl (Tp (c := n) (d := 1#64) rfl rfl)<|Qa<|Zu rfl (fun c2 => ?_) (fun c2 => ?_)
   · replace hm := iF c2 hm
     refine Vi ?_
     exact ⟨rfl, a7, Qf, hm, Qz⟩
   replace hm := iT c2 hm
   refine qg 6 rfl<|qm rfl<|qm rfl<|qv rfl (Pw (a := a7) (b := a8) rfl rfl)<|qm rfl ?_
   obtain ⟨o, i, hm⟩ := Qc hm
   refine qv rfl (Vm (c := a7 * a8) (d := p2) rfl rfl i)<|qm rfl<|Qh ?_
   exact ⟨rfl, o, Qf, hm, Qz⟩
 clear hm; rintro a9 w2 ⟨hm, K2⟩
 unfold Qfn at hm
 refine qs 6 rfl<|qm rfl<|qm rfl<|qv rfl (Pw (a := a8) (b := a8) rfl rfl)<|qm rfl ?_
 obtain ⟨p, j, hm⟩ := Qc hm
 refine qv rfl (Vm (c := a8 * a8) (d := p2) rfl rfl j)<|qm rfl<|Qa<|qg 3 rfl<|qm rfl ?_
 obtain ⟨q, k, hm⟩ := Qc hm
 refine qv rfl (Qop (c := a6) (d := 2#64) rfl rfl k)<|qm rfl<|Qh<|Xy ?_
 have K_4 : Kz [] w w2 := (K1.kz K2)
 subst f
 exact ⟨rfl, ⟨n1, q, a9, p⟩, Qf, ⟨hm, K_4⟩, Nat.lt_succ_self _⟩
theorem Xef {p0 r} (hm : Qfo p0 = some r) {w : World} :
    Calls Tryz.prog 270 [.agg (Ko.cs p0).toArray].toArray w fun e w' => ∃ v, e = .returned v ∧ (v = .bool r ∧ Gr w w') := by
 unfold Qfo at hm
 refine Xe 52 Tryz.func270 rfl rfl rfl<|qs 2 rfl<|qe rfl (Qy (cs := Ko.cs p0) rfl rfl) ?_
 rintro _ w1 ⟨b1, rfl, n, f, G1⟩
 refine qm rfl<|Qa<|Qe ?_
 have X3 := ((Gr.refl w).trans G1)
 refine qj (β := Bool) (rg 3 29) (fun a1 => [(31, .bool a1)]) (fun a1 wr => (Ct p0 a1 = some r) ∧ Kz [] w1 wr) ?_ ?_
 · refine qg 29 rfl<|qv rfl (Qb Dh rfl)<|qv rfl (Qd (v := wv p0.P) Xm rfl f rfl)<|qv rfl (Oj (c := p0.P) (d := 1048575#64) rfl rfl)<|qp rfl (Qm rfl) (fun c4 => ?_) (fun c4 => ?_)
   · replace hm := iT c4 hm
     refine qk rfl<|qk rfl<|qk rfl<|qk rfl<|qm rfl<|qm rfl<|qk rfl<|qk rfl<|qk rfl<|qm rfl<|qm rfl<|qk rfl<|qk rfl<|qk rfl<|qk rfl<|qm rfl<|qm rfl<|qk rfl<|qk rfl<|qk rfl<|qk rfl<|qk rfl<|qk rfl<|qk rfl<|qm rfl ?_
     refine Qh ?_
     exact ⟨rfl, true, Qf, hm, Qz⟩
   replace hm := iF c4 hm
   refine qv rfl (Qb Dh rfl)<|qv rfl (Qd (v := wv p0.P) Xm rfl f rfl) ?_
   obtain ⟨x3, i, hm⟩ := Qc hm
   refine qe rfl (eC Qqs rfl (Qtr i)) ?_
   rintro _ w4 ⟨rfl, G4⟩
   refine qv rfl (Jb rfl)<|qm rfl<|qp rfl (Qm rfl) (fun c5 => ?_) (fun c5 => ?_)
   · replace hm := Xx c5 hm
     refine qk rfl<|qk rfl<|qk rfl<|qm rfl<|qm rfl<|qk rfl<|qk rfl<|qk rfl<|qk rfl<|qm rfl<|qm rfl<|qk rfl<|qk rfl<|qk rfl<|qk rfl<|qk rfl<|qk rfl<|qk rfl<|qm rfl<|Qh ?_
     exact ⟨rfl, true, Qf, hm, (Qz.gr G4)⟩
   replace hm := Xw c5 hm
   refine qv rfl (Qb Hu rfl) ?_
   have g := (f.gr G4)
   refine qv rfl (Qd (v := wv p0.Q) Xm rfl g rfl)<|qv rfl (Oj (c := p0.Q) (d := 1048575#64) rfl rfl)<|qm rfl<|qp rfl (Qm rfl) (fun c6 => ?_) (fun c6 => ?_)
   · replace hm := iT c6 hm
     refine qk rfl<|qk rfl<|qk rfl<|qk rfl<|qm rfl<|qm rfl<|qk rfl<|qk rfl<|qk rfl<|qk rfl<|qk rfl<|qk rfl<|qk rfl<|qm rfl<|Qh ?_
     exact ⟨rfl, true, Qf, hm, (Qz.gr G4)⟩
   replace hm := iF c6 hm
   refine qv rfl (Qb Hu rfl)<|qv rfl (Qd (v := wv p0.Q) Xm rfl g rfl) ?_
   obtain ⟨x4, j, hm⟩ := Qc hm
   refine qe rfl (eC Qqs rfl (Qtr j)) ?_
   rintro _ w5 ⟨rfl, G5⟩
   refine qv rfl (Jb rfl)<|qm rfl<|qp rfl (Qm rfl) (fun c7 => ?_) (fun c7 => ?_)
   · replace hm := Xx c7 hm
     refine qk rfl<|qk rfl<|qk rfl<|qk rfl<|qk rfl<|qk rfl<|qk rfl<|qm rfl<|Qh ?_
     exact ⟨rfl, true, Qf, hm, ((Qz.gr G4).gr G5)⟩
   replace hm := Xw c7 hm
   refine qv rfl (Qb Dh rfl) ?_
   have h := (g.gr G5)
   refine qv rfl (Qd (v := wv p0.P) Xm rfl h rfl)<|qv rfl (Mw (a := p0.P) (b := 1#64) rfl rfl)<|qv rfl (Qb Hu rfl)<|qv rfl (Qd (v := wv p0.Q) Xm rfl h rfl) ?_
   obtain ⟨x5, k, hm⟩ := Qc hm
   refine qv rfl (Vm (c := p0.P - 1#64) (d := p0.Q) rfl rfl k)<|qv rfl (Ok (c := x5) (d := 0#64) rfl rfl)<|qm rfl<|Qh ?_
   exact ⟨rfl, (decide (x5 ≠ 0#64)), Qf, hm, ((Qz.gr G4).gr G5)⟩
 clear hm; rintro a1 w2 ⟨hm, K2⟩
 unfold Ct at hm
 refine Xj rfl (fun c1 => ?_) (fun c1 => ?_)
 · replace hm := Xx c1 hm
   refine qs 1 rfl<|qm rfl<|qb ?_
   have X5 := (X3.kz K2)
   cases hm
   refine ⟨_, _, rfl, Qt rfl (Qg rfl), ?_⟩
   exact ⟨rfl, X5⟩
 replace hm := Xw c1 hm
 refine qu<|qs 21 rfl<|qv rfl (Qb Qb6 rfl) ?_
 have B6 := (f.kz K2)
 refine qv rfl (Qd (v := wv p0.G) Xm rfl B6 rfl)<|qv rfl (Np (c := p0.G) (d := 2#64) rfl rfl)<|Jh rfl (Qm rfl) (fun c2 => ?_) (fun c2 => ?_)
 · replace hm := iF c2 hm
   refine qk rfl<|qk rfl<|qk rfl<|qk rfl<|qk rfl<|qm rfl<|qm rfl<|qk rfl<|qk rfl<|qk rfl<|qk rfl<|qk rfl<|qk rfl<|qk rfl<|qk rfl<|qm rfl<|qm rfl<|Qa<|Qo ?_
   have l := (X3.kz K2)
   cases hm
   refine ⟨_, _, rfl, Qt rfl (Qg rfl), ?_⟩
   exact ⟨rfl, l⟩
 replace hm := iT c2 hm
 refine qv rfl (Qb Qb6 rfl)<|qv rfl (Qd (v := wv p0.G) Xm rfl B6 rfl)<|qv rfl (Qb Dh rfl)<|qv rfl (Qd (v := wv p0.P) Xm rfl B6 rfl)<|qv rfl (Nr (c := p0.G) (d := p0.P) rfl rfl)<|qm rfl<|Jh rfl (Qm rfl) (fun c3 => ?_) (fun c3 => ?_)
 · replace hm := iF c3 hm
   refine qk rfl<|qk rfl<|qk rfl<|qk rfl<|qk rfl<|qk rfl<|qk rfl<|qk rfl<|qm rfl<|qm rfl<|Qa<|Qo ?_
   have X9 := (X3.kz K2)
   cases hm
   refine ⟨_, _, rfl, Qt rfl (Qg rfl), ?_⟩
   exact ⟨rfl, X9⟩
 replace hm := iT c3 hm
 refine qv rfl (Qb Qb6 rfl)<|qv rfl (Qd (v := wv p0.G) Xm rfl B6 rfl)<|qv rfl (Qb Hu rfl)<|qv rfl (Qd (v := wv p0.Q) Xm rfl B6 rfl)<|qv rfl (Qb Dh rfl)<|qv rfl (Qd (v := wv p0.P) Xm rfl B6 rfl) ?_
 obtain ⟨x2, m, hm⟩ := Qc hm
 refine qe rfl (eC Qls rfl (Qnl m)) ?_
 rintro _ w3 ⟨rfl, G3⟩
 refine qv rfl (Tp (c := x2) (d := 1#64) rfl rfl)<|qm rfl<|qm rfl<|Qa<|Qo ?_
 have X8 := ((X3.kz K2).trans G3)
 cases hm
 refine ⟨_, _, rfl, Qt rfl (Qg rfl), ?_⟩
 exact ⟨rfl, X8⟩
theorem Qnu {p0 r} (hm : Rr p0 = some r) {w : World} :
    Calls Tryz.prog 174 [.agg (Qs.cs p0).toArray].toArray w fun e w' => ∃ v, e = .returned v ∧ (v = .bool r ∧ Gr w w') := by
 unfold Rr at hm
 refine Xe 43 Tryz.func174 rfl rfl rfl<|qs 2 rfl<|qe rfl (Qy (cs := Qs.cs p0) rfl rfl) ?_
 rintro _ w1 ⟨b1, rfl, i, f, G1⟩
 refine qm rfl<|Qa<|Qe ?_
 have X3 := ((Gr.refl w).trans G1)
 refine qj (β := Bool) (rg 3 29) (fun a1 => [(31, .bool a1)]) (fun a1 wr => (Rs p0 a1 = some r) ∧ Kz [] w1 wr) ?_ ?_
 · refine qg 29 rfl<|qv rfl (Qb Yg rfl)<|qv rfl (Qd (v := bv p0.Kind) Xs rfl f rfl)<|qv rfl (Qoo (p := p0.Kind) (q := 4#8) rfl rfl)<|qp rfl (Qm rfl) (fun c2 => ?_) (fun c2 => ?_)
   · replace hm := iT c2 hm
     refine qk rfl<|qk rfl<|qk rfl<|qm rfl<|qm rfl<|qk rfl<|qk rfl<|qk rfl<|qm rfl<|qm rfl<|qk rfl<|qk rfl<|qk rfl<|qm rfl<|qm rfl<|qk rfl<|qk rfl<|qk rfl<|qm rfl<|qm rfl<|qk rfl<|qk rfl<|qk rfl<|qk rfl<|qm rfl ?_
     refine Qh ?_
     exact ⟨rfl, true, Qf, hm, Qz⟩
   replace hm := iF c2 hm
   refine qv rfl (Qb Wu rfl)<|qv rfl (Qd (v := .int .i64 p0.Depth) Qv rfl f rfl)<|qv rfl (Zc (a := p0.Depth) (b := 0) rfl rfl)<|qm rfl<|qp rfl (Qm rfl) (fun c3 => ?_) (fun c3 => ?_)
   · replace hm := iT c3 hm
     refine qk rfl<|qk rfl<|qk rfl<|qm rfl<|qm rfl<|qk rfl<|qk rfl<|qk rfl<|qm rfl<|qm rfl<|qk rfl<|qk rfl<|qk rfl<|qm rfl<|qm rfl<|qk rfl<|qk rfl<|qk rfl<|qk rfl<|qm rfl<|Qh ?_
     exact ⟨rfl, true, Qf, hm, Qz⟩
   replace hm := iF c3 hm
   refine qv rfl (Qb Wu rfl)<|qv rfl (Qd (v := .int .i64 p0.Depth) Qv rfl f rfl)<|qv rfl (Va (a := p0.Depth) (b := 6) rfl rfl)<|qm rfl<|qp rfl (Qm rfl) (fun c4 => ?_) (fun c4 => ?_)
   · replace hm := iT c4 hm
     refine qk rfl<|qk rfl<|qk rfl<|qm rfl<|qm rfl<|qk rfl<|qk rfl<|qk rfl<|qm rfl<|qm rfl<|qk rfl<|qk rfl<|qk rfl<|qk rfl<|qm rfl<|Qh ?_
     exact ⟨rfl, true, Qf, hm, Qz⟩
   replace hm := iF c4 hm
   refine qv rfl (Qb La rfl)<|qv rfl (Qd (v := .int .i64 p0.Degree) Qv rfl f rfl)<|qv rfl (Zc (a := p0.Degree) (b := 1) rfl rfl)<|qm rfl<|qp rfl (Qm rfl) (fun c5 => ?_) (fun c5 => ?_)
   · replace hm := iT c5 hm
     refine qk rfl<|qk rfl<|qk rfl<|qm rfl<|qm rfl<|qk rfl<|qk rfl<|qk rfl<|qk rfl<|qm rfl<|Qh ?_
     exact ⟨rfl, true, Qf, hm, Qz⟩
   replace hm := iF c5 hm
   refine qv rfl (Qb La rfl)<|qv rfl (Qd (v := .int .i64 p0.Degree) Qv rfl f rfl)<|qv rfl (Va (a := p0.Degree) (b := 8) rfl rfl)<|qm rfl<|qp rfl (Qm rfl) (fun c6 => ?_) (fun c6 => ?_)
   · replace hm := iT c6 hm
     refine qk rfl<|qk rfl<|qk rfl<|qk rfl<|qm rfl<|Qh ?_
     exact ⟨rfl, true, Qf, hm, Qz⟩
   replace hm := iF c6 hm
   refine qv rfl (Qb Wz rfl)<|qv rfl (Zy (vs := Ko.cs p0.Group) Ou rfl f rfl rfl) ?_
   obtain ⟨x3, g, hm⟩ := Qc hm
   refine qe rfl (eC Qyw rfl (Xef g)) ?_
   rintro _ w5 ⟨rfl, G5⟩
   refine qv rfl (Jb rfl)<|qm rfl<|Qh ?_
   exact ⟨rfl, (!x3), Qf, hm, (Qz.gr G5)⟩
 clear hm; rintro a1 w2 ⟨hm, K2⟩
 unfold Rs at hm
 refine Xj rfl (fun c1 => ?_) (fun c1 => ?_)
 · replace hm := Xx c1 hm
   refine qs 1 rfl<|qm rfl<|qb ?_
   have X5 := (X3.kz K2)
   cases hm
   refine ⟨_, _, rfl, Qt rfl (Qg rfl), ?_⟩
   exact ⟨rfl, X5⟩
 replace hm := Xw c1 hm
 refine qu<|Qe<|dw [([])] [] (.leaf [(0,10),(1,10),(2,10),(3,10),(4,10),(6,10),(7,10),(5,0),(8,10),(9,10),(10,10),(11,10)]) ?_
 intro w3 G3 j
 refine Zj<|dh 0 rfl rfl (fun w hS => Qb Wz rfl)<|dh 0 rfl rfl (fun w hS => Qb Hu rfl) ?_
 have B6 := ((f.kz K2).gr G3)
 refine dh 0 rfl rfl (fun w hS => Qd (v := wv p0.Group.Q) Xm rfl (Bx.kp B6 hS) rfl)<|dh 0 rfl rfl (fun w hS => Qb Wu rfl)<|dh 0 rfl rfl (fun w hS => Qd (v := .int .i64 p0.Depth) Qv rfl (Bx.kp B6 hS) rfl)<|dh 0 rfl rfl (fun w hS => Qb La rfl)<|dh 0 rfl rfl (fun w hS => Qd (v := .int .i64 p0.Degree) Qv rfl (Bx.kp B6 hS) rfl) ?_
 obtain ⟨x2, h, hm⟩ := Qc hm
 refine qz [] rfl (eC Qe4 rfl (Qfy h)) ⟨fun _ => Qj, trivial⟩ ?_
 rintro _ w4 ⟨rfl, G4⟩
 refine kG G4 ?_
 have S8 := ((Kp.refl ([]) w3).gr G4)
 refine qh 0 rfl rfl S8 (fun w hS => Zg (k := .i64) (a := x2) (b := p0.Degree) rfl rfl)<|qh 0 rfl rfl S8 (fun w hS => Yb Ye rfl)<|qh 0 rfl rfl S8 (fun w hS => Oj (c := p0.Group.Q) (d := wd (Qi (x2 + p0.Degree))) rfl rfl)<|dn 0 rfl rfl S8<|Qa<|Qo ?_
 have X9 := (((X3.kz K2).trans G3).trans G4)
 cases hm
 refine ⟨_, _, rfl, Qt rfl (Qg rfl), ?_⟩
 exact ⟨rfl, X9⟩
theorem Xew {p0 r} (hm : Qg4 p0 = some r) {w : World} :
    Calls Tryz.prog 173 [.agg (Qs.cs p0).toArray].toArray w fun e w' => ∃ v, e = .returned v ∧ (v = .int .i64 r ∧ Gr w w') := by
 unfold Qg4 at hm
 refine Xe 6 Tryz.func173 rfl rfl rfl<|qs 2 rfl<|qe rfl (Qy (cs := Qs.cs p0) rfl rfl) ?_
 rintro _ w1 ⟨b1, rfl, c, a, G1⟩
 refine qm rfl<|Qa<|Qe<|qs 3 rfl<|qv rfl (Qp Zw rfl a rfl) ?_
 obtain ⟨x1, b, hm⟩ := Qc hm
 refine qe rfl (eC Qlk rfl (Qnu b)) ?_
 rintro _ w2 ⟨rfl, G2⟩
 refine qv rfl (Jb rfl)<|Qa<|Xj rfl (fun c1 => ?_) (fun c1 => ?_)
 · replace hm := Xx c1 hm
   refine qs 1 rfl<|qm rfl<|qb ?_
   have X4 := (((Gr.refl w).trans G1).trans G2)
   cases hm
   refine ⟨_, _, rfl, Qt rfl (Qg rfl), ?_⟩
   exact ⟨rfl, X4⟩
 replace hm := Xw c1 hm
 refine qu<|qs 1 rfl<|qm rfl<|Qa<|Qo ?_
 have X5 := (((Gr.refl w).trans G1).trans G2)
 cases hm
 refine ⟨_, _, rfl, Qt rfl (Qg rfl), ?_⟩
 exact ⟨rfl, X5⟩
theorem Qwu {p0 r} (hm : Qa5 p0 = some r) {w : World} :
    Calls Tryz.prog 187 [kv p0].toArray w fun e w' => ∃ v, e = .returned v ∧ (v = .agg (Vc.cs r).toArray ∧ Gr w w') := by
 unfold Qa5 at hm
 refine Xe 29 Tryz.func187 rfl rfl rfl<|qs 2 rfl<|qe rfl (Qy (cs := kb p0) rfl rfl) ?_
 rintro _ w1 ⟨b1, rfl, A, l, G1⟩
 have E := l.lt
 refine qe rfl (Xh (cs := Vc.cs (Vc.mk 0#64 0#64)) Nt rfl) ?_
 rintro _ w2 ⟨b2, rfl, B, m, G2⟩
 have F := m.lt
 refine qd 1 rfl<|qe rfl (Xh (cs := Vc.cs (Vc.mk 0#64 0#64)) Nt rfl) ?_
 rintro _ w3 ⟨b3, rfl, C, q, G3⟩
 refine Qa<|Qe<|qs 1 rfl<|qm rfl<|Qa<|Xi ?_
 have X7 := ((((Gr.refl w).trans G1).trans G2).trans G3)
 refine Zq (α := Nat × Int × BitVec 64 × BitVec 64) (rg 4 24) (fun ⟨n1, a4, a5, a6⟩ => [(5, .int .i64 a4)]) (fun ⟨n1, a4, a5, a6⟩ wr => (Qr (Qa6 p0) n1 (a4, a5, a6) = some r) ∧ Bx wr b3 278 (Vc.cs (Vc.mk a5 a6)) ∧ Kz [(1, b3)] w3 wr) (fun ⟨n1, a4, a5, a6⟩ => n1) ⟨Xb, 0, 0#64, 0#64⟩ ?_ ?_ ?_
 · exact Qf
 · exact ⟨hm, q, Kz.refl _ _⟩
 clear hm; rintro ⟨n1, a4, a5, a6⟩ w4 ⟨hm, d, K4⟩
 have hb := Zx hm; clear hm; obtain ⟨n1, rfl, hm⟩ := hb
 generalize g : Qr (Qa6 p0) n1 = D at hm
 unfold Qa6 at hm
 try dsimp only at hm
 refine qs 1 rfl<|qv rfl (Zc (a := a4) (b := 8) rfl rfl)<|Qa<|Qe<|Zu rfl (fun c1 => ?_) (fun c1 => ?_)
 · replace hm := iF c1 hm
   refine Zl<|Xk<|Xk<|Zk<|Xl<|qs 2 rfl<|qv rfl (Qp Wr rfl d rfl) ?_
   have s := ((m.gr G3).kz K4)
   refine qe rfl (Qx Wr rfl rfl rfl s rfl rfl) ?_
   rintro _ w8 ⟨t, M8⟩
   refine Qa<|Qo ?_
   have u := ((X7.kz K4).md M8)
   cases hm
   refine ⟨_, _, rfl, Qt rfl (Xr Wr rfl t rfl), ?_⟩
   exact ⟨rfl, u⟩
 replace hm := iT c1 hm
 refine qu<|Qe<|Xi<|qs 2 rfl<|qm rfl<|qm rfl<|Qa<|dw [([b3]),([])] [(18, [1]),(20, [1])] (.leaf [(0,10),(1,11),(2,10),(3,10),(4,10),(5,10),(6,10),(7,10),(8,10),(9,11),(10,10),(11,10),(12,10),(13,10),(14,10),(15,10),(16,10),(17,10),(18,0),(19,10),(20,0)]) ?_
 intro w5 G5 G
 refine Zj<|dh 0 rfl rfl (fun w hS => Qb Lz rfl) ?_
 have h := (d.gr G5)
 refine dh 1 rfl rfl (fun w hS => Qd (v := wv a5) Xm rfl (Bx.kp h hS) rfl) ?_
 obtain ⟨nn7, hnn7, hm⟩ := Qc hm
 refine dh 0 rfl rfl (fun w hS => Qkf (c := a5) (b := (un 8#64)) rfl rfl hnn7)<|dm 0 rfl rfl ?_
 obtain ⟨y8, n, hm⟩ := Qc hm
 refine dh 0 rfl rfl (fun w hS => Gj (i := a4) (p := p0) Tryz.underlying23 (Xs).siz rfl rfl n) ?_
 have o := ((((l.gr G2).gr G3).kz K4).gr G5)
 refine dh 0 rfl rfl (fun w hS => Mu (off := 0) (p := p0) (i := a4) Xs rfl (Bx.kp o hS) rfl n (by omega))<|dh 0 rfl rfl (fun w hS => Qd2 Nw rfl)<|dh 0 rfl rfl (fun w hS => Bg (a := a5 <<< nn7) (b := y8.setWidth 64) rfl rfl)<|dh 0 rfl rfl (fun w hS => Qb Nz rfl)<|dh 1 rfl rfl (fun w hS => Qd (v := wv a6) Xm rfl (Bx.kp h hS) rfl) ?_
 obtain ⟨nn9, hnn9, hm⟩ := Qc hm
 refine dh 0 rfl rfl (fun w hS => Qkf (c := a6) (b := (un 8#64)) rfl rfl hnn9)<|dm 0 rfl rfl<|dh 0 rfl rfl (fun w hS => Zg (k := .i64) (a := 8) (b := a4) rfl rfl) ?_
 obtain ⟨j, f, hm⟩ := Qc hm
 refine dh 0 rfl rfl (fun w hS => Gj (i := Qi (8 + a4)) (p := p0) Tryz.underlying23 (Xs).siz rfl rfl f)<|dh 0 rfl rfl (fun w hS => Mu (off := 0) (p := p0) (i := Qi (8 + a4)) Xs rfl (Bx.kp o hS) rfl f (by omega))<|dh 0 rfl rfl (fun w hS => Qd2 Nw rfl)<|dh 0 rfl rfl (fun w hS => Bg (a := a6 <<< nn9) (b := j.setWidth 64) rfl rfl)<|dh 0 rfl rfl (fun w hS => Qb Lz rfl)<|qz [(1, b3)] rfl (Hn (cs' := Vc.cs (Vc.mk ((a5 <<< nn7) ||| (y8.setWidth 64)) a6)) (Xm).siz rfl rfl rfl h rfl rfl) ⟨fun _ => Qj, nofun, trivial⟩ ?_
 rintro _ w6 ⟨x, M6⟩
 refine kM M6 ?_
 have y := ((Kp.refl ([b3]) w5).md M6)
 refine qh 0 rfl rfl y (fun w hS => Qb Nz rfl)<|qz [(1, b3)] rfl (Hn (cs' := Vc.cs (Vc.mk ((a5 <<< nn7) ||| (y8.setWidth 64)) ((a6 <<< nn9) ||| (j.setWidth 64)))) (Xm).siz rfl rfl rfl x rfl rfl) ⟨fun _ => Qj, nofun, trivial⟩ ?_
 rintro _ w7 ⟨z, M7⟩
 refine kM M7<|Qh<|Xy<|Xl<|qg 2 rfl<|qv rfl (Zg (k := .i64) (a := a4) (b := 1) rfl rfl)<|qm rfl<|Qh ?_
 have K_15 : Kz [(1, b3)] w3 w7 := (((K4.gr G5).md M6).md M7)
 subst g
 exact ⟨rfl, ⟨n1, Qi (a4 + 1), (a5 <<< nn7) ||| (y8.setWidth 64), (a6 <<< nn9) ||| (j.setWidth 64)⟩, Qf, ⟨hm, z, K_15⟩, Nat.lt_succ_self _⟩
theorem Qwp {p0 p1 p2 r} (hm : Qdi p0 p1 p2 = some r) {w : World} :
    Calls Tryz.prog 222 [kv p0, wv p1, wv p2].toArray w fun e w' => ∃ v, e = .returned v ∧ (v = wv r ∧ Gr w w') := by
 unfold Qdi at hm
 refine Xe 16 Tryz.func222 rfl rfl rfl<|qs 2 rfl<|qe rfl (Qy (cs := kb p0) rfl rfl) ?_
 rintro _ w1 ⟨b1, rfl, g, a, G1⟩
 refine qm rfl<|Qa<|Qe<|qs 2 rfl<|qm rfl<|qv rfl (Tp (c := p2) (d := 0#64) rfl rfl)<|Qa<|Xj rfl (fun c1 => ?_) (fun c1 => ?_)
 · replace hm := iT c1 hm
   refine qs 1 rfl<|qm rfl<|qb ?_
   have X3 := ((Gr.refl w).trans G1)
   cases hm
   refine ⟨_, _, rfl, Qt rfl (Qg rfl), ?_⟩
   exact ⟨rfl, X3⟩
 replace hm := iF c1 hm
 refine qu<|qs 8 rfl<|qv rfl (Qp Ql rfl a rfl)<|qm rfl<|qe rfl (eC Ty rfl (Tx p0 (Xf 3#8) (Vy _) (Vx _) p1 _)) ?_
 rintro _ w2 ⟨rfl, G2⟩
 obtain ⟨x1, b, hm⟩ := Qc hm
 refine qe rfl (eC Qe2 rfl (Qwu b)) ?_
 rintro _ w3 ⟨rfl, G3⟩
 refine qv rfl (Xhz (v := wv x1.x) Xb1 rfl rfl)<|qm rfl ?_
 obtain ⟨x2, f, hm⟩ := Qc hm
 refine qv rfl (Vm (c := x1.x) (d := p2) rfl rfl f)<|qm rfl<|Qa<|Qo ?_
 have X6 := ((((Gr.refl w).trans G1).trans G2).trans G3)
 cases hm
 refine ⟨_, _, rfl, Qt rfl (Qg rfl), ?_⟩
 exact ⟨rfl, X6⟩
theorem Xe1 {p0 p1 r} (hm : Qfh p0 p1 = some r) {w : World} :
    Calls Tryz.prog 213 [kv p0, .agg (Qs.cs p1).toArray].toArray w fun e w' => ∃ v, e = .returned v ∧ (∃ ur0_s zr0_s gr0_s, v = ur0_s ∧ Qn w' zr0_s gr0_s 24 1 ur0_s (r.map Kr) ∧ Zm (zr0_s = 0 ∨ w.heap.size ≤ gr0_s) ∧ Gr w w') := by
 unfold Qfh at hm
 refine Xe 31 Tryz.func213 rfl rfl rfl<|qs 3 rfl<|qe rfl (Qy (cs := kb p0) rfl rfl) ?_
 rintro _ w1 ⟨b1, rfl, H, n, G1⟩
 have z1 := G1.size
 have N := n.lt
 refine qe rfl (Qy (cs := Qs.cs p1) rfl rfl) ?_
 rintro _ w2 ⟨b2, rfl, I, o, G2⟩
 have O := o.lt
 refine qm rfl<|qd 4 rfl ?_
 have B5 := (n.gr G2)
 refine qv rfl (Qp Ql rfl B5 rfl)<|qe rfl (eC Ty rfl (Tx p0 (Xf 40#8) (Vy _) (Vx _) 0#64 _)) ?_
 rintro _ w3 ⟨rfl, G3⟩
 have z6 := G3.size
 refine qe rfl (Xh (cs := kb k0) Zh rfl) ?_
 rintro _ w4 ⟨b4, rfl, J, p, G4⟩
 have P := p.lt
 refine qe rfl (Qx Ql rfl rfl rfl p rfl rfl) ?_
 rintro _ w5 ⟨u, M5⟩
 have z9 := M5.size
 refine qd 5 rfl<|qv rfl (Qb La rfl) ?_
 have s := (((o.gr G3).gr G4).md M5)
 refine qv rfl (Qd (v := .int .i64 p1.Degree) Qv rfl s rfl)<|qv rfl (Zg (k := .i64) (a := p1.Degree) (b := 1) rfl rfl) ?_
 obtain ⟨l1, y, hm⟩ := Qc hm
 refine qe rfl (Qrd (c := Kr) (a := 0#64) Qvx Qd7 rfl ⟨rfl, rfl⟩ rfl y (by decide)) ?_
 rintro z w6 ⟨d, K, t, G6⟩
 have R := G6.size
 refine qm rfl<|Qa<|Qe<|qs 3 rfl<|qm rfl<|qv rfl (Zo (l := l1) (c := Kr) Tryz.underlying309 rfl (Qn.rd t))<|qm rfl<|Qa<|Xi ?_
 have B := (((((((Gr.refl w).trans G1).trans G2).trans G3).trans G4).md M5).trans G6)
 refine Zq (α := Nat × List (BitVec 64) × Int × Value × Nat × Nat) ([6, 7] ++ rg 16 14) (fun ⟨n1, a5, a7, vy6, zy6, gy6⟩ => [(6, vy6), (16, .int .i64 a7)]) (fun ⟨n1, a5, a7, vy6, zy6, gy6⟩ wr => (Qr (Qbu p0 p1 l1) n1 (a5, a7) = some r) ∧ Qn wr zy6 gy6 24 1 vy6 (a5.map Kr) ∧ Zm (zy6 = 0 ∨ (gy6 = d ∧ 1 ≠ 0) ∨ w6.heap.size ≤ gy6) ∧ Kz [(1, d)] w6 wr) (fun ⟨n1, a5, a7, vy6, zy6, gy6⟩ => n1) ⟨Xb, l1, 0, z, 1, d⟩ ?_ ?_ ?_
 · exact Qf
 · exact ⟨hm, t, ⟨Qj⟩, Kz.refl _ _⟩
 clear hm; rintro ⟨n1, a5, a7, vy6, zy6, gy6⟩ w7 ⟨hm, g, f, K7⟩
 have hb := Zx hm; clear hm; obtain ⟨n1, rfl, hm⟩ := hb
 generalize h : Qr (Qbu p0 p1 l1) n1 = L at hm
 unfold Qbu at hm
 try dsimp only at hm
 refine qs 1 rfl<|qv rfl (Zc (a := a7) (b := (l1.length : Int)) rfl rfl)<|Qa<|Qe<|Zu rfl (fun c1 => ?_) (fun c1 => ?_)
 · replace hm := iF c1 hm
   refine Zl<|Xk<|Xk<|Zk<|Xl<|qs 2 rfl<|qm rfl<|qm rfl<|Qa<|Qo ?_
   have C := (B.kz K7 (Qk ((.inr Qj) : 1 = 0 ∨ w.heap.size ≤ d)))
   cases hm
   refine ⟨_, _, rfl, Qt rfl (Qg rfl), ?_⟩
   exact ⟨vy6, zy6, gy6, rfl, g, ⟨(Xc (A := (fun x => w.heap.size ≤ x)) f (.inr Qj))⟩, C⟩
 replace hm := iT c1 hm
 refine qu<|Qe<|Xi<|qs 2 rfl<|qm rfl<|qm rfl<|Qa<|qg 11 rfl<|qm rfl<|qm rfl ?_
 have D := ((u.gr G6).kz K7 (Qk ((.inr Qj) : 1 = 0 ∨ d ≠ b4)))
 refine qv rfl (Qp Ql rfl D rfl)<|qm rfl<|qv rfl (Yb Ye rfl)<|qv rfl (Qb Wz rfl)<|qv rfl (Qb Hu rfl) ?_
 have E := ((s.gr G6).kz K7 (Qk ((.inr Qj) : 1 = 0 ∨ d ≠ b2)))
 refine qv rfl (Qd (v := wv p1.Group.Q) Xm rfl E rfl) ?_
 obtain ⟨x8, F, hm⟩ := Qc hm
 refine qe rfl (eC Qyu rfl (Qwp F)) ?_
 rintro _ w8 ⟨rfl, G8⟩
 obtain ⟨y9, j, hm⟩ := Qc hm
 have m := (g.gr G8)
 refine qv rfl (Jm (i := a7) Tryz.underlying309 (Xm).siz rfl (Qn.rd m) rfl j) ?_
 have M := Qn.z1 m j
 refine qe rfl (Qia (i := a7) (q := 0) (a' := x8) (vs := [wv x8]) (c := Kr) (Xm).siz rfl rfl rfl rfl rfl m j (by first | rfl | omega) rfl rfl ⟨rfl, rfl⟩) ?_
 rintro _ w9 ⟨G, M9⟩
 refine Qh<|Xy<|Xl<|qg 2 rfl<|qv rfl (Zg (k := .i64) (a := a7) (b := 1) rfl rfl)<|qm rfl<|Qh ?_
 have K_22 : Kz [(1, d)] w6 w9 := ((K7.gr G8).md M9 (Qk (Xc (A := (fun x => (x = d ∧ 1 ≠ 0) ∨ w6.heap.size ≤ x)) f Qj)))
 subst h
 exact ⟨rfl, ⟨n1, a5.set a7.toNat x8, Qi (a7 + 1), vy6, zy6, gy6⟩, Qf, ⟨hm, G, ⟨(Xc (A := (fun x => (x = d ∧ 1 ≠ 0) ∨ w6.heap.size ≤ x)) f Qj)⟩, K_22⟩, Nat.lt_succ_self _⟩
theorem Xgi {p0 vp0 zp0 gp0 op0 r} (hm : Qjv p0 = some r) {w : World} (a : Rd w zp0 gp0 op0 1 vp0 (p0.map Kr)) :
    Calls Tryz.prog 317 [vp0].toArray w fun e w' => ∃ v, e = .returned v ∧ (∃ bc0 uc0_s zc0_s gc0_s oc0_s, v = .func (.func 359) #[] [.pointer (some ⟨bc0, 0, none⟩)].toArray ∧ Bx w' bc0 309 ([uc0_s]) ∧ (w.heap.size ≤ bc0) ∧ Rd w' zc0_s gc0_s oc0_s 1 uc0_s (r.map Kr) ∧ Zm (zc0_s = 0 ∨ (gc0_s = gp0 ∧ zp0 ≠ 0) ∨ w.heap.size ≤ gc0_s) ∧ Gr w w') := by
 unfold Qjv at hm
 refine Xe 4 Tryz.func317 rfl rfl rfl<|qs 2 rfl<|qe rfl (Qy (cs := [vp0]) rfl (Qwl (Rd.oneB a))) ?_
 rintro _ w1 ⟨b1, rfl, c, b, G1⟩
 refine qm rfl<|qd 2 rfl<|qv rfl (Mv rfl rfl)<|qm rfl<|Qa<|Qo ?_
 have B4 := (a.gr G1)
 have X5 := ((Gr.refl w).trans G1)
 cases hm
 refine ⟨_, _, rfl, Qt rfl (Qg rfl), ?_⟩
 exact ⟨b1, vp0, zp0, gp0, op0, rfl, b, by omega, B4, ⟨Qj⟩, X5⟩
theorem Xgh (p1 : List (BitVec 64)) (bp1 : Nat) (vp1_0 : Value) (zp1_0 gp1_0 op1_0 : Nat) (xs : List (Int × BitVec 64)) (hm : Qju p1 = some xs) (w0 : World) (hbp1 : Bx w0 bp1 309 ([vp1_0])) (m : Rd w0 zp1_0 gp1_0 op1_0 1 vp1_0 (p1.map Kr)) :
    IT Tryz.prog 359 [.pointer (some ⟨bp1, 0, none⟩)] (xs.map (fun (x : Int × BitVec 64) => ([.int .i64 x.1, wv x.2] : List Value))) (zf zp1_0 gp1_0 ++ [bp1]) w0 := by
 intro l J Jx w fp hG hJ hJx hcap h0 hY
 have c1 := Rd.gr m hG
 have E := c1.lth
 have y : zp1_0 = 0 ∨ gp1_0 ∉ fp := by by_cases hz : zp1_0 = 0; exact .inl hz; exact .inr (hcap _ (by simp [Jj, hz]))
 have c4 := Bx.gr hbp1 hG
 have F := c4.lt
 have z : bp1 ∉ fp := hcap _ (by simp)
 have hd := Qle xs
 unfold Qju at hm
 refine Xe 19 Tryz.func359 rfl rfl rfl<|qs 4 rfl<|qv rfl (Qd (v := vp1_0) Qt1 rfl c4 rfl)<|qv rfl (Zo (l := p1) (c := Kr) Tryz.underlying309 rfl c1)<|qv rfl (Vn (k := .i64) (a := (p1.length : Int)) (b := 1) rfl rfl)<|qm rfl<|Qa<|Xi<|Zq (α := Nat × Int × Nat × List Nat × List (Int × BitVec 64)) ([3] ++ rg 7 12) (fun ⟨n1, a2, kk, fpl, rl⟩ => [(3, .int .i64 a2)]) (fun ⟨n1, a2, kk, fpl, rl⟩ wr => (Qr (Ob p1) n1 a2 = some rl) ∧ Dr xs kk rl ∧ J kk fpl wr ∧ (∀ c ∈ fpl, c ∈ fp ∨ w.heap.size ≤ c) ∧ Kp fp w wr ∧ Rd wr zp1_0 gp1_0 op1_0 1 vp1_0 (p1.map Kr) ∧ Bx wr bp1 309 ([vp1_0]) ∧ (zp1_0 = 0 ∨ gp1_0 ∉ fpl) ∧ bp1 ∉ fpl ∧ True) (fun ⟨n1, a2, kk, fpl, rl⟩ => n1) ⟨Xb, Qi ((p1.length : Int) - 1), 0, fp, xs⟩ ?_ ?_ ?_
 · exact Qf
 · exact ⟨hm, hd, h0, (fun c hc => Or.inl hc), (Kp.refl fp w), c1, c4, y, z, trivial⟩
 clear hm; rintro ⟨n1, a2, n, fpl1, rl1⟩ w1 ⟨hm, dl1, JLw1, sl1, KLw1, d, e, g, h, -⟩
 have z7 := KLw1.size
 have A := d.lth
 have G := e.lt
 have hb := Zx hm; clear hm; obtain ⟨n1, rfl, hm⟩ := hb
 generalize p : Qr (Ob p1) n1 = D at hm
 unfold Ob at hm
 try dsimp only at hm
 refine Qe<|qs 2 rfl<|qm rfl<|qv rfl (Kl (a := a2) (b := 0) rfl rfl)<|Qa<|Zu rfl (fun c1 => ?_) (fun c1 => ?_)
 · replace hm := iF c1 hm
   refine Zl<|Xk<|Xk<|Zk ?_
   have he := Option.some.inj hm
   have hl := Dr.last (c := (fun (x : Int × BitVec 64) => ([.int .i64 x.1, wv x.2] : List Value))) dl1 he.symm
   refine ⟨_, _, rfl, Nl rfl, KLw1, .inl ⟨_, sl1, ?_⟩⟩
   rw [← hl]; exact JLw1
 replace hm := iT c1 hm
 refine qu<|Qe<|Xi<|qs 8 rfl<|qm rfl<|qm rfl<|qv rfl (Qd (v := vp1_0) Qt1 rfl e rfl)<|qm rfl ?_
 obtain ⟨y3, r, hm⟩ := Qc hm
 refine qv rfl (Jm (i := a2) Tryz.underlying309 (Xm).siz rfl d rfl r)<|qv rfl (Vq (q := 0) (u := wv y3) Xm rfl d r (by first | rfl | omega) rfl) ?_
 obtain ⟨rr10, hm, he10⟩ := Qha hm
 have j := Dr.at dl1 he10
 have hd10 := Dr.next dl1 he10
 refine qe rfl (Qb3 rfl rfl (hY _ _ _ _ (Dy j) JLw1 KLw1 sl1)) ?_
 rintro _ w2 ⟨bb, rfl, KF10, f, hg10, hJb⟩
 have H := KF10.size
 have sub10 : ∀ c ∈ f, c ∈ fp ∨ w.heap.size ≤ c := Sp sl1 hg10 (by omega)
 have s := Xcw hg10 g (by have := A.o; omega)
 have t := Ku hg10 h (by omega)
 cases bb
 · have Jy10 : Jx (n + 1) f w2 := hJb
   refine qv rfl (Jb rfl)<|Qa<|Ry rfl<|Qo<|Zz<|Zf<|Zf<|Zz ?_
   have KI14 : Kp fp w w2 := (KLw1.trans KF10 sl1)
   exact ⟨_, _, rfl, Nl rfl, KI14, .inr ⟨_, _, sub10, (by rw [List.length_map]; exact (List.getElem?_eq_some_iff.1 j).1), Jy10⟩⟩
 have Jy10 : J (n + 1) f w2 := hJb
 refine qv rfl (Jb rfl)<|Qa<|Sr rfl<|Vi<|Xy<|Xl<|qg 3 rfl<|qm rfl<|qv rfl (Vn (k := .i64) (a := a2) (b := 1) rfl rfl)<|qm rfl<|Qh ?_
 have KI15 : Kp fp w w2 := (KLw1.trans KF10 sl1)
 have B := (Rd.kp d KF10 g)
 have C := (Bx.kp e KF10 h)
 subst p
 exact ⟨rfl, ⟨n1, Qi (a2 - 1), (n + 1), f, rr10⟩, Qf, ⟨hm, hd10, Jy10, sub10, KI15, B, C, s, t, trivial⟩, Nat.lt_succ_self _⟩
theorem Qfc {p0 p1 vp1 zp1 gp1 op1 r} (hm : Sh p0 p1 = some r) {w : World} (g : Rd w zp1 gp1 op1 1 vp1 (p1.map Kr)) :
    Calls Tryz.prog 218 [wv p0, vp1].toArray w fun e w' => ∃ v, e = .returned v ∧ (v = wv r ∧ Gr w w') := by
 unfold Sh at hm
 refine Xe 21 Tryz.func218 rfl rfl rfl<|qs 1 rfl<|qm rfl<|qd 1 rfl<|qm rfl<|Qa<|Qe<|qs 3 rfl<|qm rfl<|qv rfl (Zo (l := p1) (c := Kr) Tryz.underlying308 rfl g)<|qm rfl<|Qa<|Xi<|Zq (α := Nat × BitVec 64 × Int) ([5, 7] ++ rg 10 10) (fun ⟨n1, a3, a4⟩ => [(5, wv a3), (10, .int .i64 a4)]) (fun ⟨n1, a3, a4⟩ wr => (Qr (Am p0 p1) n1 (a3, a4) = some r) ∧ Kz [] w wr) (fun ⟨n1, a3, a4⟩ => n1) ⟨Xb, 1#64, 0⟩ ?_ ?_ ?_
 · exact Qf
 · exact ⟨hm, Kz.refl _ _⟩
 clear hm; rintro ⟨n1, a3, a4⟩ w1 ⟨hm, K1⟩
 have hb := Zx hm; clear hm; obtain ⟨n1, rfl, hm⟩ := hb
 generalize f : Qr (Am p0 p1) n1 = m at hm
 unfold Am at hm
 try dsimp only at hm
 refine qs 1 rfl<|qv rfl (Zc (a := a4) (b := (p1.length : Int)) rfl rfl)<|Qa<|Qe<|Zu rfl (fun c1 => ?_) (fun c1 => ?_)
 · replace hm := iF c1 hm
   refine Zl<|Xk<|Xk<|Zk<|Xl<|qs 2 rfl<|qm rfl<|qm rfl<|Qa<|Qo ?_
   have X5 := ((Gr.refl w).kz K1)
   cases hm
   refine ⟨_, _, rfl, Qt rfl (Qg rfl), ?_⟩
   exact ⟨rfl, X5⟩
 replace hm := iT c1 hm
 refine qu<|Qe<|Xi<|qs 3 rfl ?_
 obtain ⟨y5, h, hm⟩ := Qc hm
 have B3 := (g.kz K1)
 refine qv rfl (Jm (i := a4) Tryz.underlying308 (Xm).siz rfl B3 rfl h)<|qv rfl (Vq (q := 0) (u := wv y5) Xm rfl B3 h (by first | rfl | omega) rfl)<|qm rfl<|Qa<|qg 6 rfl<|qm rfl<|qm rfl<|qv rfl (Pw (a := a3) (b := y5) rfl rfl)<|qm rfl ?_
 obtain ⟨x6, j, hm⟩ := Qc hm
 refine qv rfl (Vm (c := a3 * y5) (d := p0) rfl rfl j)<|qm rfl<|Qh<|Xy<|Xl<|qg 2 rfl<|qv rfl (Zg (k := .i64) (a := a4) (b := 1) rfl rfl)<|qm rfl<|Qh ?_
 have K_4 : Kz [] w w1 := K1
 subst f
 exact ⟨rfl, ⟨n1, x6, Qi (a4 + 1)⟩, Qf, ⟨hm, K_4⟩, Nat.lt_succ_self _⟩
theorem Xe0 {p0 p1 p2 vp0 zp0 gp0 op0 r} (hm : Qff p0 p1 p2 = some r) {w : World} (A : Rd w zp0 gp0 op0 1 vp0 (p0.map Kr)) :
    Calls Tryz.prog 214 [vp0, wv p1, wv p2].toArray w fun e w' => ∃ v, e = .returned v ∧ (v = wv r ∧ Gr w w') := by
 have B := A.lth
 unfold Qff at hm
 refine Xe 24 Tryz.func214 rfl rfl rfl<|qs 3 rfl<|qe rfl (Qy (cs := [wv p1]) rfl rfl) ?_
 rintro _ w1 ⟨b1, rfl, aj, C, G1⟩
 have ao := C.lt
 refine qe rfl (Qy (cs := [wv p2]) rfl rfl) ?_
 rintro _ w2 ⟨b2, rfl, ak, D, G2⟩
 have ap := D.lt
 refine qm rfl<|qd 2 rfl<|qe rfl (Xh (cs := [wv 0#64]) Qd7 rfl) ?_
 rintro _ w3 ⟨b3, rfl, al, F, G3⟩
 have aq := F.lt
 refine qe rfl (Hn (cs' := [wv 0#64]) (Xm).siz rfl rfl rfl F rfl rfl) ?_
 rintro _ w4 ⟨S, M4⟩
 have z8 := M4.size
 refine Qa<|Qe<|qs 2 rfl<|qm rfl ?_
 have B9 := ((((A.gr G1).gr G2).gr G3).md M4 (Xd B))
 obtain ⟨x1, T, hm⟩ := Qc hm
 refine qe rfl (eC Qzd rfl (Xgi T B9)) ?_
 rintro _ w5 ⟨G, t, u, y, z, rfl, g, H, f, i, G5⟩
 have I := f.lth
 have am := g.lt
 refine Qa<|Xi ?_
 obtain ⟨l2, U, hm⟩ := Qc hm
 have V := ((((((Gr.refl w).trans G1).trans G2).trans G3).md M4).trans G5)
 have X := ((((C.gr G2).gr G3).md M4).gr G5)
 have Y := (((D.gr G3).md M4).gr G5)
 have Z := (S.gr G5)
 refine Oe (gf := 359) rfl Qzq (Xgh x1 _ _ _ _ _ _ U _ g f) (by intro x hx; obtain ⟨a, _, rfl⟩ := List.mem_map.1 hx; rfl) rfl _ (fun _ _ _ _ => False) ([b3]) (Od (α := BitVec 64) (fun a4 rk => Vf (Qbs p1 p2) Qfg (List.drop rk l2) a4 = some r) (fun a4 => ([b3])) (fun a4 W => Bx W b3 24 ([wv a4]) ∧ True) (by rintro a4 W ⟨F0, _⟩ b hb; have q0 := F0.lt; replace hb : b ∈ ([b3]) := hb; simp only [List.mem_cons, List.mem_append, Jj, List.not_mem_nil, or_false, false_or, not_or, ne_eq, List.nil_append, List.cons_append, true_and, and_true, false_and, and_false, not_true_eq_false, not_false_eq_true, or_true, true_or] at hb; omega) (by rintro a4 W W' ⟨F0, _⟩ E hs; replace hs : ∀ b ∈ ([b3]), W'.heap[b]? = W.heap[b]? := hs; exact ⟨(hs _ (by simp)).trans F0, trivial⟩)) (fun _ => Qgz) (by intro b hb; have := (Xp (b := b3) i (Xd B)); have := I.o; simp only [List.mem_cons, List.mem_append, Jj, List.not_mem_nil, or_false, false_or, not_or, ne_eq, List.nil_append, List.cons_append, true_and, and_true, false_and, and_false, not_true_eq_false, not_false_eq_true, or_true, true_or] at hb ⊢; omega) ⟨0#64, hm, rfl, Z, trivial⟩ ?_ ?_ ?_
 · rintro l rk x fp w6 hl hx _ K6 hF hln Jt
   clear hm
   obtain ⟨⟨e5, e6⟩, hxe, rfl⟩ := map_some hx
   have J : Kz [(1, b3)] w5 w6 := Fv K6 (by intro k hk; simp only [Jp, and_true, List.mem_cons, List.mem_append, Jj, List.not_mem_nil, or_false, false_or, not_or, ne_eq, List.nil_append, List.cons_append, true_and, and_true, false_and, and_false, not_true_eq_false, not_false_eq_true, or_true, true_or] at hk ⊢; omega)
   refine qg 1 rfl<|qm rfl<|Qh<|⟨rfl, (Gr.refl _), ?_⟩
   rintro w7 M7 ⟨a4, hm, rfl, p, -⟩
   replace hm := Qew hm hxe
   generalize hnx1 : Vf (Qbs p1 p2) Qfg (List.drop (rk + 1) l2) = ar at hm
   unfold Qbs at hm
   try dsimp only at hm
   refine Xi<|dw [([b3]),([])] [(9, [1])] (.leaf [(0,10),(1,11),(2,10),(5,10),(7,10),(3,0),(4,0),(6,10),(8,10),(9,0)]) ?_
   intro w8 G8 au
   refine Zj ?_
   have K := (((X.kz J).md M7).gr G8)
   refine dh 0 rfl rfl (fun w hS => Qd (v := wv p1) Qt2 rfl (Bx.kp K hS) rfl) ?_
   have L := (p.gr G8)
   refine dh 1 rfl rfl (fun w hS => Qd (v := wv a4) Xm rfl (Bx.kp L hS) rfl) ?_
   have aa := (((Y.kz J).md M7).gr G8)
   refine dh 0 rfl rfl (fun w hS => Qd (v := wv p2) Xm rfl (Bx.kp aa hS) rfl)<|dm 0 rfl rfl<|dh 0 rfl rfl (fun w hS => Qd (v := wv p1) Qt2 rfl (Bx.kp K hS) rfl)<|qz [] rfl (Ve [a4, p2] Kr Qde rfl rfl (Kx rfl) rfl rfl rfl) ⟨fun _ => Qj, fun _ => Qj, trivial⟩ ?_
   rintro av w9 ⟨aw, an, ab, G9⟩
   refine kG G9 ?_
   obtain ⟨x7, ac, hm⟩ := Qc hm
   refine qz [] rfl (eC Qe5 rfl (Qfc ac (Qn.rd ab))) ⟨fun _ => Qj, fun _ => Qj, trivial⟩ ?_
   rintro _ ax ⟨rfl, m⟩
   refine kG m ?_
   have M := (((Kp.refl ([b3]) w8).gr G9).gr m)
   refine qh 0 rfl rfl M (fun w hS => Te (a := x7) (b := e6) rfl rfl) ?_
   obtain ⟨x8, ad, hm⟩ := Qc hm
   refine qh 0 rfl rfl M (fun w hS => Vm (c := x7 + e6) (d := p1) rfl rfl ad) ?_
   have ae := ((L.gr G9).gr m)
   refine qz [(1, b3)] rfl (Hn (cs' := [wv x8]) (Xm).siz rfl rfl rfl ae rfl rfl) ⟨fun _ => Qj, nofun, trivial⟩ ?_
   rintro _ N ⟨O, P⟩
   refine kM P<|Qh<|Xy ?_
   have K_30 : Kz [(1, b3)] w7 N := ((((Kz.gr (Kz.refl _ _) G8).gr G9).gr m).md P)
   have Kq30 : Kp ([b3]) w7 N := Qez K_30 (by intro k hk; simp only [Jp, and_true, List.mem_cons, List.mem_append, Jj, List.not_mem_nil, or_false, false_or, not_or, ne_eq, List.nil_append, List.cons_append, true_and, and_true, false_and, and_false, not_true_eq_false, not_false_eq_true, or_true, true_or] at hk ⊢; omega)
   subst hnx1
   exact ⟨Kq30, ([b3]), (by intro c hc; simp only [List.mem_cons, List.mem_append, Jj, List.not_mem_nil, or_false, false_or, not_or, ne_eq, List.nil_append, List.cons_append, true_and, and_true, false_and, and_false, not_true_eq_false, not_false_eq_true, or_true, true_or] at hc ⊢; omega), ⟨x8, hm, rfl, O, trivial⟩⟩
 · clear hm; rintro j fp q af s Q ⟨a4, hm, rfl, n, -⟩ ag
   replace hm := Qex hm
   have R : Kz [(1, b3)] w5 q := Fv ag (by intro k hk; simp only [Jp, and_true, List.mem_cons, List.mem_append, Jj, List.not_mem_nil, or_false, false_or, not_or, ne_eq, List.nil_append, List.cons_append, true_and, and_true, false_and, and_false, not_true_eq_false, not_false_eq_true, or_true, true_or] at hk ⊢; omega)
   simp only [List.mem_cons, List.mem_append, Jj, List.not_mem_nil, or_false, false_or, not_or, ne_eq, List.nil_append, List.cons_append, true_and, and_true, false_and, and_false, not_true_eq_false, not_false_eq_true, or_true, true_or, not_and] at Q
   unfold Qfg at hm
   try dsimp only at hm
   refine Xy<|Xl<|qs 2 rfl<|qv rfl (Qd (v := wv a4) Xm rfl n rfl)<|qm rfl<|Qa<|Qo ?_
   have DL34 := s
   have ah := Md.put (w := q) j (.deferred none)
   have ai : Gr w (q.putObj j (.deferred none)) := ((V.kz R).md ah)
   cases hm
   refine ⟨_, _, ⟨j, rfl, DL34, rfl⟩, Qt rfl (Qg rfl), ?_⟩
   exact ⟨rfl, ai⟩
 rintro _ _ _ _ _ _ _ _ _ h _
 exact h.elim
theorem Xdv {p0 p1 p2 r} (hm : Qf9 p0 p1 p2 = some r) {w : World} :
    Calls Tryz.prog 133 [kv p0, .agg (Qs.cs p1).toArray, .int .i64 p2].toArray w fun e w' => ∃ v, e = .returned v ∧ (∃ ur0_1 zr0_1 gr0_1, v = .tuple [.agg (Qq.cs r.1 ur0_1).toArray, .int .i64 r.2].toArray ∧ Qn w' zr0_1 gr0_1 72 18 ur0_1 (r.1.Labels.map Xn.cs) ∧ Zm (zr0_1 = 0 ∨ w.heap.size ≤ gr0_1) ∧ Gr w w') := by
 unfold Qf9 at hm
 refine Xe 38 Tryz.func133 rfl rfl rfl<|qs 4 rfl<|qe rfl (Qy (cs := kb p0) rfl rfl) ?_
 rintro _ w1 ⟨b1, rfl, H, i, G1⟩
 have K := i.lt
 refine qe rfl (Qy (cs := Qs.cs p1) rfl rfl) ?_
 rintro _ w2 ⟨b2, rfl, I, j, G2⟩
 have L := j.lt
 refine qe rfl (Xh (cs := Qq.cs (Qq.mk 0 [] (Qu.mk 0#64 0#64)) (.slice none 0 0)) Gl rfl) ?_
 rintro _ w3 ⟨b3, rfl, J, f, G3⟩
 refine qm rfl<|Qa<|Qe<|qs 3 rfl ?_
 have B7 := (j.gr G3)
 refine qv rfl (Qp Zw rfl B7 rfl) ?_
 obtain ⟨x1, s, hm⟩ := Qc hm
 refine qe rfl (eC Qlr rfl (Qnb s)) ?_
 rintro _ w4 ⟨rfl, G4⟩
 refine qv rfl (Jb rfl)<|Qa<|Xj rfl (fun c1 => ?_) (fun c1 => ?_)
 · replace hm := Xx c1 hm
   refine qs 3 rfl<|qv rfl (Zv (cs := Qq.cs (Qq.mk 0 [] (Qu.mk 0#64 0#64)) (.slice none 0 0)) Da rfl rfl) ?_
   have B9 := (f.gr G4)
   refine qe rfl (Qx Jc rfl rfl (Qq.cs_ones _ _ rfl) B9 rfl rfl) ?_
   rintro _ w5 ⟨t, M5⟩
   refine qm rfl<|qb ?_
   have Y1 := Gr.trans (Gr.trans (Gr.trans G1 G2) G3) G4
   have u := (((Gr.refl w).trans Y1).md M5)
   cases hm
   refine ⟨_, _, rfl, Zb rfl (Xr Jc rfl t rfl) (Qg rfl), ?_⟩
   exact ⟨(.slice none 0 0), 0, 0, rfl, (Ji _ 0 72 18), ⟨.inl rfl⟩, u⟩
 replace hm := Xw c1 hm
 refine qu<|Qe ?_
 have Y2 := Gr.trans (Gr.trans (Gr.trans G1 G2) G3) G4
 have k := ((Gr.refl w).trans Y2)
 refine qj (β := Bool) (rg 13 9) (fun a2 => [(21, .bool a2)]) (fun a2 wr => (Qfa p0 p1 p2 a2 = some r) ∧ Kz [] w4 wr) ?_ ?_
 · refine qg 9 rfl<|qm rfl<|qv rfl (Zc (a := p2) (b := 0) rfl rfl)<|qp rfl (Qm rfl) (fun c3 => ?_) (fun c3 => ?_)
   · replace hm := iT c3 hm
     refine qk rfl<|qk rfl<|qk rfl<|qk rfl<|qk rfl<|qm rfl<|Qh ?_
     exact ⟨rfl, true, Qf, hm, Qz⟩
   replace hm := iF c3 hm
   refine qm rfl<|qv rfl (Qb Wu rfl) ?_
   have x := (B7.gr G4)
   refine qv rfl (Qd (v := .int .i64 p1.Depth) Qv rfl x rfl) ?_
   obtain ⟨nn5, hnn5, hm⟩ := Qc hm
   refine qv rfl (Qh7 (a := 1) (b := p1.Depth) rfl rfl hnn5)<|qv rfl (Kl (a := p2) (b := Pc 1 nn5) rfl rfl)<|qm rfl<|Qh ?_
   exact ⟨rfl, (decide (Pc 1 nn5 ≤ p2)), Qf, hm, Qz⟩
 clear hm; rintro a2 w6 ⟨hm, K6⟩
 unfold Qfa at hm
 refine Xj rfl (fun c2 => ?_) (fun c2 => ?_)
 · replace hm := Xx c2 hm
   refine qs 3 rfl<|qv rfl (Zv (cs := Qq.cs (Qq.mk 0 [] (Qu.mk 0#64 0#64)) (.slice none 0 0)) Da rfl rfl) ?_
   have y := ((f.gr G4).kz K6)
   refine qe rfl (Qx Jc rfl rfl (Qq.cs_ones _ _ rfl) y rfl rfl) ?_
   rintro _ w7 ⟨z, M7⟩
   refine qm rfl<|qb ?_
   have A := ((k.kz K6).md M7)
   cases hm
   refine ⟨_, _, rfl, Zb rfl (Xr Jc rfl z rfl) (Qg rfl), ?_⟩
   exact ⟨(.slice none 0 0), 0, 0, rfl, (Ji _ 0 72 18), ⟨.inl rfl⟩, A⟩
 replace hm := Xw c2 hm
 refine qu<|qs 4 rfl<|qm rfl<|qv rfl (Yb Ye rfl)<|qv rfl (Te (a := wd p2) (b := 1#64) rfl rfl)<|qm rfl<|Qa<|Qe<|dw [([b3])] [] (.leaf [(0,10),(1,10),(2,10),(3,10),(5,10),(6,10),(7,10),(8,10),(4,0),(9,0),(10,10),(11,10),(12,0),(13,10)]) ?_
 intro w8 G8 M
 refine Zj<|dm 0 rfl rfl<|dm 0 rfl rfl ?_
 have Y3 := Gr.trans (Gr.trans G2 G3) G4
 have B := (((i.gr Y3).kz K6).gr G8)
 refine dh 0 rfl rfl (fun w hS => Qp Ql rfl (Bx.kp B hS) rfl) ?_
 have l := (((B7.gr G4).kz K6).gr G8)
 refine dh 0 rfl rfl (fun w hS => Qp Zw rfl (Bx.kp l hS) rfl)<|dh 0 rfl rfl (fun w hS => Qb Wz rfl)<|dh 0 rfl rfl (fun w hS => Qb Hu rfl)<|dh 0 rfl rfl (fun w hS => Qd (v := wv p1.Group.Q) Xm rfl (Bx.kp l hS) rfl)<|dm 0 rfl rfl ?_
 obtain ⟨x3, C, hm⟩ := Qc hm
 refine qz [] rfl (eC Qyp rfl (Xe1 C)) ⟨fun _ => Qj, trivial⟩ ?_
 rintro m w9 ⟨_, n, o, rfl, c, p, G9⟩
 refine kG G9 ?_
 obtain ⟨x4, D, hm⟩ := Qc hm
 refine qz [] rfl (eC Qyq rfl (Xe0 D (Qn.rd c))) ⟨fun _ => Qj, trivial⟩ ?_
 rintro _ N ⟨rfl, d⟩
 refine kG d ?_
 have g := (((Kp.refl ([b3]) w8).gr G9).gr d)
 refine qh 0 rfl rfl g (fun w hS => Zv (cs := Qu.cs (Qu.mk ((wd p2) + 1#64) x4)) Qhk rfl rfl)<|qh 0 rfl rfl g (fun w hS => Zv (cs := Qq.cs (Qq.mk p2 [] (Qu.mk ((wd p2) + 1#64) x4)) (.slice none 0 0)) Da rfl (Pq rfl rfl rfl (Pq rfl rfl rfl rfl))) ?_
 have E := (((((f.gr G4).kz K6).gr G8).gr G9).gr d)
 refine qz [(1, b3)] rfl (Qx Jc rfl rfl (Qq.cs_ones _ _ rfl) E rfl rfl) ⟨fun _ => Qj, trivial⟩ ?_
 rintro _ O ⟨q, h⟩
 refine kM h ?_
 have F := (g.md h)
 refine dn 0 rfl rfl F<|Qa<|Qo ?_
 have G := (((((k.kz K6).trans G8).trans G9).trans d).md h)
 cases hm
 refine ⟨_, _, rfl, Zb rfl (Xr Jc rfl q rfl) (Qg rfl), ?_⟩
 exact ⟨(.slice none 0 0), 0, 0, rfl, (Ji _ 0 72 18), ⟨.inl rfl⟩, G⟩
theorem Xeg {p0 p1 p2 r} (hm : Qfr p0 p1 p2 = some r) {w : World} :
    Calls Tryz.prog 272 [kv p0, wv p1, wv p2].toArray w fun e w' => ∃ v, e = .returned v ∧ (v = wv r ∧ Gr w w') := by
 unfold Qfr at hm
 refine Xe 17 Tryz.func272 rfl rfl rfl<|qs 2 rfl<|qe rfl (Qy (cs := kb p0) rfl rfl) ?_
 rintro _ w1 ⟨b1, rfl, m, a, G1⟩
 have s := a.lt
 refine qm rfl<|Qa<|Qe<|qs 2 rfl<|qm rfl<|qv rfl (Tp (c := p2) (d := 0#64) rfl rfl)<|Qa<|Xj rfl (fun c1 => ?_) (fun c1 => ?_)
 · replace hm := iT c1 hm
   refine qs 1 rfl<|qm rfl<|qb ?_
   have X3 := ((Gr.refl w).trans G1)
   cases hm
   refine ⟨_, _, rfl, Qt rfl (Qg rfl), ?_⟩
   exact ⟨rfl, X3⟩
 replace hm := iF c1 hm
 refine qu<|qs 5 rfl<|qv rfl (Qp Ql rfl a rfl)<|qm rfl<|qe rfl (eC Dt rfl (Td p0 (Xf 3#8) (Vy _) (Vx _) p1 _)) ?_
 rintro _ w2 ⟨rfl, G2⟩
 have z4 := G2.size
 refine qe rfl (Xh (cs := kb k0) Zh rfl) ?_
 rintro _ w3 ⟨b3, rfl, q, b, G3⟩
 refine qe rfl (Qx Ql rfl rfl rfl b rfl rfl) ?_
 rintro _ w4 ⟨f, M4⟩
 refine qd 5 rfl ?_
 have g := Qnj (o := 0) (lo := 0) (hi := 8) (p := Jk p0 (Xf 3#8) p1) f rfl (by decide) (by decide)
 refine qv rfl (Su (n := 16) (l := 0) (h := 8) Tryz.underlying23 (Xs).siz rfl rfl ⟨_, rfl⟩ (by decide) (by decide) (by decide)) ?_
 obtain ⟨x1, i, hm⟩ := Qc hm
 refine qe rfl (eC Qan rfl (Qnn i g)) ?_
 rintro _ w5 ⟨rfl, G5⟩
 refine qm rfl ?_
 obtain ⟨x2, j, hm⟩ := Qc hm
 refine qv rfl (Vm (c := x1) (d := p2) rfl rfl j)<|qm rfl<|Qa<|Qo ?_
 have k := ((((((Gr.refl w).trans G1).trans G2).trans G3).md M4).trans G5)
 cases hm
 refine ⟨_, _, rfl, Qt rfl (Qg rfl), ?_⟩
 exact ⟨rfl, k⟩
theorem Xex {p0 p1 r} (hm : Qg5 p0 p1 = some r) {w : World} :
    Calls Tryz.prog 271 [kv p0, .agg (Qs.cs p1).toArray].toArray w fun e w' => ∃ v, e = .returned v ∧ (∃ ur0_s zr0_s gr0_s, v = ur0_s ∧ Qn w' zr0_s gr0_s 24 1 ur0_s (r.map Kr) ∧ Zm (zr0_s = 0 ∨ w.heap.size ≤ gr0_s) ∧ Gr w w') := by
 unfold Qg5 at hm
 refine Xe 27 Tryz.func271 rfl rfl rfl<|qs 3 rfl<|qe rfl (Qy (cs := kb p0) rfl rfl) ?_
 rintro _ w1 ⟨b1, rfl, H, h, G1⟩
 have M := h.lt
 refine qe rfl (Qy (cs := Qs.cs p1) rfl rfl) ?_
 rintro _ w2 ⟨b2, rfl, I, i, G2⟩
 have N := i.lt
 refine qm rfl<|qd 1 rfl<|qm rfl<|qd 4 rfl ?_
 have B5 := (h.gr G2)
 refine qv rfl (Qp Ql rfl B5 rfl)<|qe rfl (eC Dt rfl (Td p0 (Xf 40#8) (Vy _) (Vx _) 0#64 _)) ?_
 rintro _ w3 ⟨rfl, G3⟩
 have z6 := G3.size
 refine qe rfl (Xh (cs := kb k0) Zh rfl) ?_
 rintro _ w4 ⟨b4, rfl, J, j, G4⟩
 have O := j.lt
 refine qe rfl (Qx Ql rfl rfl rfl j rfl rfl) ?_
 rintro _ w5 ⟨o, M5⟩
 have z9 := M5.size
 refine Qa<|Qe<|qs 1 rfl<|qm rfl<|Qa<|Xi ?_
 have p := ((((((Gr.refl w).trans G1).trans G2).trans G3).trans G4).md M5)
 refine Zq (α := Nat × List (BitVec 64) × Int × Value × Nat × Nat) ([5, 7] ++ rg 10 16) (fun ⟨n1, a4, a6, vy5, zy5, gy5⟩ => [(5, vy5), (7, .int .i64 a6)]) (fun ⟨n1, a4, a6, vy5, zy5, gy5⟩ wr => (Qr (Qcd p0 p1) n1 (a4, a6) = some r) ∧ Qn wr zy5 gy5 24 1 vy5 (a4.map Kr) ∧ Zm (zy5 = 0 ∨ w5.heap.size ≤ gy5) ∧ Kz [] w5 wr) (fun ⟨n1, a4, a6, vy5, zy5, gy5⟩ => n1) ⟨Xb, [], 0, (.slice none 0 0), 0, 0⟩ ?_ ?_ ?_
 · exact Qf
 · exact ⟨hm, (Ji _ 0 24 1), ⟨(.inl rfl)⟩, Kz.refl _ _⟩
 clear hm; rintro ⟨n1, a4, a6, vy5, zy5, gy5⟩ w6 ⟨hm, f, d, K6⟩
 have P := K6.size
 have hb := Zx hm; clear hm; obtain ⟨n1, rfl, hm⟩ := hb
 generalize g : Qr (Qcd p0 p1) n1 = K at hm
 unfold Qcd at hm
 try dsimp only at hm
 refine Qe<|qs 4 rfl<|qm rfl<|qv rfl (Qb La rfl) ?_
 have n := ((((i.gr G3).gr G4).md M5).kz K6)
 refine qv rfl (Qd (v := .int .i64 p1.Degree) Qv rfl n rfl)<|qv rfl (Pf (a := a6) (b := p1.Degree) rfl rfl)<|Qa<|Zu rfl (fun c1 => ?_) (fun c1 => ?_)
 · replace hm := iF c1 hm
   refine Zl<|Xk<|Xk<|Zk<|Xl<|qs 2 rfl<|qm rfl<|qm rfl<|Qa<|Qo ?_
   have q := (p.kz K6)
   cases hm
   refine ⟨_, _, rfl, Qt rfl (Qg rfl), ?_⟩
   exact ⟨vy5, zy5, gy5, rfl, f, ⟨(Jf (A := (fun x => w.heap.size ≤ x)) d)⟩, q⟩
 replace hm := iT c1 hm
 refine qu<|Qe<|Xi<|qg 11 rfl<|qm rfl ?_
 have s := (o.kz K6)
 refine qv rfl (Qp Ql rfl s rfl)<|qm rfl<|qv rfl (Yb Ye rfl)<|qv rfl (Qb Wz rfl)<|qv rfl (Qb Hu rfl)<|qv rfl (Qd (v := wv p1.Group.Q) Xm rfl n rfl) ?_
 obtain ⟨x7, t, hm⟩ := Qc hm
 refine qe rfl (eC Qyy rfl (Xeg t)) ?_
 rintro _ w7 ⟨rfl, G7⟩
 have R := G7.size
 refine qe rfl (Ve [x7] Kr Lu rfl rfl (Kx rfl) rfl rfl rfl) ?_
 rintro S w8 ⟨T, L, u, G8⟩
 have U := G8.size
 have y := ((f.gr G7).gr G8)
 obtain ⟨l8, z, hm⟩ := Qc hm
 refine qe rfl (Vl (l := a4) (m := [x7]) (c := Kr) Ow rfl rfl y (Qn.rd u) z (by decide)) ?_
 rintro B w9 ⟨C, D, E, F, V, G⟩
 refine qm rfl<|Qh<|Xy<|Xl<|qg 3 rfl<|qm rfl<|qv rfl (Zg (k := .i64) (a := a6) (b := 1) rfl rfl)<|qm rfl<|Qh ?_
 have K_20 : Kz [] w5 w9 := (((K6.gr G7).gr G8).ka F (Qk (Jf (A := (fun x => w5.heap.size ≤ x)) d)))
 subst g
 exact ⟨rfl, ⟨n1, l8, Qi (a6 + 1), B, C, D⟩, Qf, ⟨hm, E, ⟨(Jg (A := (fun x => w5.heap.size ≤ x)) G (Jf (A := (fun x => w5.heap.size ≤ x)) d))⟩, K_20⟩, Nat.lt_succ_self _⟩
theorem Xf2 {p0 p1 p2 vp1 zp1 gp1 op1 r} (hm : Qg9 p0 p1 p2 = some r) {w : World} (h : Rd w zp1 gp1 op1 1 vp1 (p1.map Kr)) :
    Calls Tryz.prog 274 [wv p0, vp1, wv p2].toArray w fun e w' => ∃ v, e = .returned v ∧ (v = wv r ∧ Gr w w') := by
 unfold Qg9 at hm
 refine Xe 32 Tryz.func274 rfl rfl rfl<|qs 1 rfl<|qm rfl<|qd 1 rfl<|qm rfl<|qd 1 rfl<|qm rfl<|Qa<|Qe<|qs 1 rfl<|qm rfl<|Qa<|Xi<|Zq (α := Nat × BitVec 64 × BitVec 64 × Int) (rg 7 24) (fun ⟨n1, a4, a5, a6⟩ => [(7, wv a4), (8, wv a5), (9, .int .i64 a6)]) (fun ⟨n1, a4, a5, a6⟩ wr => (Qr (Qcf p0 p1 p2) n1 (a4, a5, a6) = some r) ∧ Kz [] w wr) (fun ⟨n1, a4, a5, a6⟩ => n1) ⟨Xb, 0#64, 1#64, 0⟩ ?_ ?_ ?_
 · exact Qf
 · exact ⟨hm, Kz.refl _ _⟩
 clear hm; rintro ⟨n1, a4, a5, a6⟩ w1 ⟨hm, K1⟩
 have hb := Zx hm; clear hm; obtain ⟨n1, rfl, hm⟩ := hb
 generalize f : Qr (Qcf p0 p1 p2) n1 = n at hm
 unfold Qcf at hm
 try dsimp only at hm
 refine Qe<|qs 4 rfl<|qm rfl<|qm rfl ?_
 have B3 := (h.kz K1)
 refine qv rfl (Zo (l := p1) (c := Kr) Tryz.underlying308 rfl B3)<|qv rfl (Zc (a := a6) (b := (p1.length : Int)) rfl rfl)<|Qa<|Zu rfl (fun c1 => ?_) (fun c1 => ?_)
 · replace hm := iF c1 hm
   refine Zl<|Xk<|Xk<|Zk<|Xl<|qs 2 rfl<|qm rfl<|qm rfl<|Qa<|Qo ?_
   have X5 := ((Gr.refl w).kz K1)
   cases hm
   refine ⟨_, _, rfl, Qt rfl (Qg rfl), ?_⟩
   exact ⟨rfl, X5⟩
 replace hm := iT c1 hm
 refine qu<|Qe<|Xi<|qs 11 rfl<|qm rfl<|qm rfl<|qm rfl ?_
 obtain ⟨y7, g, hm⟩ := Qc hm
 refine qv rfl (Jm (i := a6) Tryz.underlying308 (Xm).siz rfl B3 rfl g)<|qv rfl (Vq (q := 0) (u := wv y7) Xm rfl B3 g (by first | rfl | omega) rfl)<|qm rfl<|qv rfl (Pw (a := y7) (b := a5) rfl rfl)<|qv rfl (Te (a := a4) (b := y7 * a5) rfl rfl)<|qm rfl ?_
 obtain ⟨x8, j, hm⟩ := Qc hm
 refine qv rfl (Vm (c := a4 + (y7 * a5)) (d := p0) rfl rfl j)<|qm rfl<|Qa<|qg 6 rfl<|qm rfl<|qm rfl<|qv rfl (Pw (a := a5) (b := p2) rfl rfl)<|qm rfl ?_
 obtain ⟨x9, m, hm⟩ := Qc hm
 refine qv rfl (Vm (c := a5 * p2) (d := p0) rfl rfl m)<|qm rfl<|Qh<|Xy<|Xl<|qg 3 rfl<|qm rfl<|qv rfl (Zg (k := .i64) (a := a6) (b := 1) rfl rfl)<|qm rfl<|Qh ?_
 have K_4 : Kz [] w w1 := K1
 subst f
 exact ⟨rfl, ⟨n1, x8, x9, Qi (a6 + 1)⟩, Qf, ⟨hm, K_4⟩, Nat.lt_succ_self _⟩
theorem Xez {p0 p1 p2 r} (hm : Qji p0 p1 p2 = some r) {w : World} :
    Calls Tryz.prog 193 [kv p0, .agg (Qs.cs p1).toArray, .int .i64 p2].toArray w fun e w' => ∃ v, e = .returned v ∧ (∃ ur0_1 zr0_1 gr0_1, v = .agg (Qq.cs r ur0_1).toArray ∧ Qn w' zr0_1 gr0_1 72 18 ur0_1 (r.Labels.map Xn.cs) ∧ Zm (zr0_1 = 0 ∨ w.heap.size ≤ gr0_1) ∧ Gr w w') := by
 unfold Qji at hm
 refine Xe 23 Tryz.func193 rfl rfl rfl<|qs 3 rfl<|qe rfl (Qy (cs := kb p0) rfl rfl) ?_
 rintro _ w1 ⟨b1, rfl, s, d, G1⟩
 have x := d.lt
 refine qe rfl (Qy (cs := Qs.cs p1) rfl rfl) ?_
 rintro _ w2 ⟨b2, rfl, t, f, G2⟩
 have y := f.lt
 refine qe rfl (Xh (cs := Qq.cs (Qq.mk 0 [] (Qu.mk 0#64 0#64)) (.slice none 0 0)) Gl rfl) ?_
 rintro _ w3 ⟨b3, rfl, u, l, G3⟩
 refine qd 4 rfl<|qm rfl<|qv rfl (Yb Ye rfl)<|qv rfl (Te (a := wd p2) (b := 1#64) rfl rfl)<|qm rfl<|Qa<|Qe<|dw [([b3])] [] (.leaf [(0,10),(1,10),(2,10),(3,10),(4,10),(5,10),(6,10),(8,10),(7,0),(9,0),(10,10),(11,10),(12,0)]) ?_
 intro w4 G4 z
 refine Zj<|dm 0 rfl rfl<|dm 0 rfl rfl<|dh 0 rfl rfl (fun w hS => Qb Wz rfl)<|dh 0 rfl rfl (fun w hS => Qb Hu rfl) ?_
 have B7 := ((f.gr G3).gr G4)
 refine dh 0 rfl rfl (fun w hS => Qd (v := wv p1.Group.Q) Xm rfl (Bx.kp B7 hS) rfl) ?_
 have B8 := (((d.gr G2).gr G3).gr G4)
 refine dh 0 rfl rfl (fun w hS => Qp Ql rfl (Bx.kp B8 hS) rfl)<|dh 0 rfl rfl (fun w hS => Qp Zw rfl (Bx.kp B7 hS) rfl)<|dm 0 rfl rfl ?_
 obtain ⟨x1, m, hm⟩ := Qc hm
 refine qz [] rfl (eC Qyx rfl (Xex m)) ⟨fun _ => Qj, trivial⟩ ?_
 rintro g w5 ⟨_, h, i, rfl, c, j, G5⟩
 refine kG G5 ?_
 obtain ⟨x2, n, hm⟩ := Qc hm
 refine qz [] rfl (eC Qyz rfl (Xf2 n (Qn.rd c))) ⟨fun _ => Qj, trivial⟩ ?_
 rintro _ w6 ⟨rfl, G6⟩
 refine kG G6 ?_
 have k := (((Kp.refl ([b3]) w4).gr G5).gr G6)
 refine qh 0 rfl rfl k (fun w hS => Zv (cs := Qu.cs (Qu.mk ((wd p2) + 1#64) x2)) Qhk rfl rfl)<|qh 0 rfl rfl k (fun w hS => Zv (cs := Qq.cs (Qq.mk p2 [] (Qu.mk ((wd p2) + 1#64) x2)) (.slice none 0 0)) Da rfl (Pq rfl rfl rfl (Pq rfl rfl rfl rfl))) ?_
 have o := (((l.gr G4).gr G5).gr G6)
 refine qz [(1, b3)] rfl (Qx Jc rfl rfl (Qq.cs_ones _ _ rfl) o rfl rfl) ⟨fun _ => Qj, trivial⟩ ?_
 rintro _ w7 ⟨p, M7⟩
 refine kM M7<|Qa<|Qo ?_
 have q := ((((((((Gr.refl w).trans G1).trans G2).trans G3).trans G4).trans G5).trans G6).md M7)
 cases hm
 refine ⟨_, _, rfl, Qt rfl (Xr Jc rfl p rfl), ?_⟩
 exact ⟨(.slice none 0 0), 0, 0, rfl, (Ji _ 0 72 18), ⟨.inl rfl⟩, q⟩
theorem Xf0 {p0 p1 p2 r} (hm : Qce p0 p1 p2 = some r) {w : World} :
    Calls Tryz.prog 118 [kv p0, .agg (Qs.cs p1).toArray, .int .i64 p2].toArray w fun e w' => ∃ v, e = .returned v ∧ (∃ ur0_1 zr0_1 gr0_1, v = .tuple [.agg (Qq.cs r.1 ur0_1).toArray, .int .i64 r.2].toArray ∧ Qn w' zr0_1 gr0_1 72 18 ur0_1 (r.1.Labels.map Xn.cs) ∧ Zm (zr0_1 = 0 ∨ w.heap.size ≤ gr0_1) ∧ Gr w w') := by
 unfold Qce at hm
 refine Xe 26 Tryz.func118 rfl rfl rfl<|qs 4 rfl<|qe rfl (Qy (cs := kb p0) rfl rfl) ?_
 rintro _ w1 ⟨b1, rfl, H, j, G1⟩
 have K := j.lt
 refine qe rfl (Qy (cs := Qs.cs p1) rfl rfl) ?_
 rintro _ w2 ⟨b2, rfl, I, k, G2⟩
 have L := k.lt
 refine qe rfl (Xh (cs := Qq.cs (Qq.mk 0 [] (Qu.mk 0#64 0#64)) (.slice none 0 0)) Gl rfl) ?_
 rintro _ w3 ⟨b3, rfl, J, i, G3⟩
 have M := i.lt
 refine qm rfl<|Qa<|Qe<|qs 3 rfl ?_
 have B7 := (k.gr G3)
 refine qv rfl (Qp Zw rfl B7 rfl) ?_
 obtain ⟨x1, m, hm⟩ := Qc hm
 refine qe rfl (eC Qlk rfl (Qnu m)) ?_
 rintro _ w4 ⟨rfl, G4⟩
 have z8 := G4.size
 refine qv rfl (Jb rfl)<|Qa<|Xj rfl (fun c1 => ?_) (fun c1 => ?_)
 · replace hm := Xx c1 hm
   refine qs 3 rfl<|qv rfl (Zv (cs := Qq.cs (Qq.mk 0 [] (Qu.mk 0#64 0#64)) (.slice none 0 0)) Da rfl rfl) ?_
   have B9 := (i.gr G4)
   refine qe rfl (Qx Jc rfl rfl (Qq.cs_ones _ _ rfl) B9 rfl rfl) ?_
   rintro _ w5 ⟨n, M5⟩
   refine qm rfl<|qb ?_
   have Y1 := Gr.trans (Gr.trans (Gr.trans G1 G2) G3) G4
   have o := (((Gr.refl w).trans Y1).md M5)
   cases hm
   refine ⟨_, _, rfl, Zb rfl (Xr Jc rfl n rfl) (Qg rfl), ?_⟩
   exact ⟨(.slice none 0 0), 0, 0, rfl, (Ji _ 0 72 18), ⟨.inl rfl⟩, o⟩
 replace hm := Xw c1 hm
 refine qu<|Qe ?_
 have Y2 := Gr.trans (Gr.trans (Gr.trans G1 G2) G3) G4
 have l := ((Gr.refl w).trans Y2)
 refine qj (β := Bool) (rg 12 9) (fun a2 => [(20, .bool a2)]) (fun a2 wr => (Qg7 p0 p1 p2 a2 = some r) ∧ Kz [] w4 wr) ?_ ?_
 · refine qg 9 rfl<|qm rfl<|qv rfl (Zc (a := p2) (b := 0) rfl rfl)<|qp rfl (Qm rfl) (fun c3 => ?_) (fun c3 => ?_)
   · replace hm := iT c3 hm
     refine qk rfl<|qk rfl<|qk rfl<|qk rfl<|qk rfl<|qm rfl<|Qh ?_
     exact ⟨rfl, true, Qf, hm, Qz⟩
   replace hm := iF c3 hm
   refine qm rfl<|qv rfl (Qb Wu rfl) ?_
   have p := (B7.gr G4)
   refine qv rfl (Qd (v := .int .i64 p1.Depth) Qv rfl p rfl) ?_
   obtain ⟨x4, q, hm⟩ := Qc hm
   refine qe rfl (eC Qe4 rfl (Qfy q)) ?_
   rintro _ N ⟨rfl, s⟩
   refine qv rfl (Kl (a := p2) (b := x4) rfl rfl)<|qm rfl<|Qh ?_
   exact ⟨rfl, (decide (x4 ≤ p2)), Qf, hm, (Qz.gr s)⟩
 clear hm; rintro a2 w6 ⟨hm, K6⟩
 have O := K6.size
 unfold Qg7 at hm
 refine Xj rfl (fun c2 => ?_) (fun c2 => ?_)
 · replace hm := Xx c2 hm
   refine qs 3 rfl<|qv rfl (Zv (cs := Qq.cs (Qq.mk 0 [] (Qu.mk 0#64 0#64)) (.slice none 0 0)) Da rfl rfl) ?_
   have t := ((i.gr G4).kz K6)
   refine qe rfl (Qx Jc rfl rfl (Qq.cs_ones _ _ rfl) t rfl rfl) ?_
   rintro _ w7 ⟨u, M7⟩
   refine qm rfl<|qb ?_
   have y := ((l.kz K6).md M7)
   cases hm
   refine ⟨_, _, rfl, Zb rfl (Xr Jc rfl u rfl) (Qg rfl), ?_⟩
   exact ⟨(.slice none 0 0), 0, 0, rfl, (Ji _ 0 72 18), ⟨.inl rfl⟩, y⟩
 replace hm := Xw c2 hm
 refine qu<|qs 6 rfl ?_
 have Y3 := Gr.trans (Gr.trans G2 G3) G4
 have z := ((j.gr Y3).kz K6)
 refine qv rfl (Qp Ql rfl z rfl) ?_
 have B := ((B7.gr G4).kz K6)
 refine qv rfl (Qp Zw rfl B rfl)<|qm rfl ?_
 obtain ⟨x3, C, hm⟩ := Qc hm
 refine qe rfl (eC Qyf rfl (Xez C)) ?_
 rintro _ w8 ⟨f, g, h, rfl, c, d, G8⟩
 have D := (((i.gr G4).kz K6).gr G8)
 refine qe rfl (Qx Jc rfl rfl (Qq.cs_ones _ _ (Qn.oneB c)) D rfl rfl) ?_
 rintro _ w9 ⟨E, M9⟩
 refine qm rfl<|Qa<|Qo ?_
 have F := (c.md M9 (Jv d))
 have G := (((l.kz K6).trans G8).md M9)
 cases hm
 refine ⟨_, _, rfl, Zb rfl (Xr Jc rfl E rfl) (Qg rfl), ?_⟩
 exact ⟨f, g, h, rfl, F, ⟨(Jf (A := (fun x => w.heap.size ≤ x)) d)⟩, G⟩
end Go.Proofs.YtgdojjniakpadaaGreat.Mx
