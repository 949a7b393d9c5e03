/- Walks that follow mirrors: Xb. Printed by mx.py. -/
import Derived.Test.YtjdffpglgkefmaaGreatXa
import Derived.Test.YtjdffpglgkefmaaGreatZd
set_option linter.unusedVariables false
set_option linter.unusedSimpArgs false
set_option maxRecDepth 100000
set_option maxHeartbeats 2000000
namespace Go.Proofs.YtjdffpglgkefmaaGreat.Mx
open Go Go.RowKit Go.Sx
theorem Qpf : FA Tryz.prog 26 0 0 := fun _ _ _ => by kernel_rfl
theorem Xh7 : En Tryz.prog 234 := fun _ _ => by kernel_rfl
theorem Qlo : FA Tryz.prog 26 1 1 := fun _ _ _ => by kernel_rfl
theorem Qvn : FA Tryz.prog 26 2 2 := fun _ _ _ => by kernel_rfl
theorem Xh6 : En Tryz.prog 235 := fun _ _ => by kernel_rfl
theorem Qqr : FA Tryz.prog 28 2 2 := fun _ _ _ => by kernel_rfl
theorem Qjd : FA Tryz.prog 28 3 3 := fun _ _ _ => by kernel_rfl
theorem Xjw : En Tryz.prog 179 := fun _ _ => by kernel_rfl
theorem Qf5 : CV Tryz.prog 3 24 .u64 := fun _ _ _ => by kernel_rfl
theorem Xeb : En Tryz.prog 98 := fun _ _ => by kernel_rfl
theorem Xi5 : ApT Tryz.prog 161 24 1 8 := Qsj Tryz.underlying161 rfl (by kernel_rfl)
theorem Xeh : ZV Tryz.prog 24 (.int .u64 0) := fun _ => by kernel_rfl
theorem Qoa : ZV Tryz.prog 233 (.agg [.int .u64 0, .int .u64 0].toArray) := fun _ => by kernel_rfl
theorem Qk6 : FA Tryz.prog 233 0 0 := fun _ _ _ => by kernel_rfl
theorem Qms : CV Tryz.prog 5 24 .u64 := fun _ _ _ => by kernel_rfl
theorem Qjk : FA Tryz.prog 233 1 1 := fun _ _ _ => by kernel_rfl
theorem Qf6 : Agg Tryz.prog 233 2 := fun _ => ⟨by kernel_rfl, by kernel_rfl⟩
theorem Qwi : En Tryz.prog 175 := fun _ _ => by kernel_rfl
theorem Xfh : F1 Tryz.prog 233 0 0 := Xmt (fun _ _ => by kernel_rfl)
theorem Xgo : En Tryz.prog 100 := fun _ _ => by kernel_rfl
theorem Xjs : En Tryz.prog 181 := fun _ _ => by kernel_rfl
theorem Qnt : One Tryz.prog 161 := fun _ => ⟨by kernel_rfl, by kernel_rfl⟩
theorem Qnr : One Tryz.prog 163 := fun _ => ⟨by kernel_rfl, by kernel_rfl⟩
theorem Qou : BSl Tryz.prog 160 2 24 1 [.int .u64 0, .int .u64 0] := Qq3 Tryz.underlying160 (Qb7).siz Xeh rfl rfl (by kernel_rfl)
theorem Qws : En Tryz.prog 108 := fun _ _ => by kernel_rfl
theorem Xkg : En Tryz.prog 237 := fun _ _ => by kernel_rfl
theorem Xah : En Tryz.prog 99 := fun _ _ => by kernel_rfl
theorem Xgq : En Tryz.prog 103 := fun _ _ => by kernel_rfl
theorem Qw5 : ZV Tryz.prog 31 (.agg [.int .u64 0, .int .u64 0].toArray) := fun _ => by kernel_rfl
theorem Xam : BS Tryz.prog 31 (fun i => [(0, 1), (1, 1)][i]?) [.int .u64 0, .int .u64 0] := Qpb Tryz.underlying31 Qw5 ⟨rfl, (Qb7).siz, rfl, (Qb7).siz, trivial⟩
theorem Qn6 : FA Tryz.prog 31 0 0 := fun _ _ _ => by kernel_rfl
theorem Xlu : En Tryz.prog 184 := fun _ _ => by kernel_rfl
theorem Xkm : En Tryz.prog 238 := fun _ _ => by kernel_rfl
theorem Xjk : En Tryz.prog 183 := fun _ _ => by kernel_rfl
theorem Xgp : En Tryz.prog 107 := fun _ _ => by kernel_rfl
theorem Xfe : BSl Tryz.prog 46 0 31 2 [] := Qxp Tryz.underlying46 (Qfg).siz
theorem Qsc : ApT Tryz.prog 46 31 2 16 := Qsj Tryz.underlying46 rfl (by kernel_rfl)
theorem Qv1 : FA Tryz.prog 33 2 2 := fun _ _ _ => by kernel_rfl
theorem Xh0 : En Tryz.prog 182 := fun _ _ => by kernel_rfl
theorem Qnw : BSl Tryz.prog 46 1 31 2 [.int .u64 0, .int .u64 0] := Qq3 Tryz.underlying46 (Qfg).siz Qw5 rfl rfl (by kernel_rfl)
theorem Qrl : FA Tryz.prog 31 1 1 := fun _ _ _ => by kernel_rfl
theorem Xl3 : En Tryz.prog 106 := fun _ _ => by kernel_rfl
theorem Xgl : En Tryz.prog 236 := fun _ _ => by kernel_rfl
theorem Xmh : En Tryz.prog 180 := fun _ _ => by kernel_rfl
theorem Qx8 : En Tryz.prog 101 := fun _ _ => by kernel_rfl
theorem Xjx : En Tryz.prog 109 := fun _ _ => by kernel_rfl
theorem Qti : CV Tryz.prog 24 2 .i64 := fun _ _ _ => by kernel_rfl
theorem Xic : CV Tryz.prog 2 24 .u64 := fun _ _ _ => by kernel_rfl
theorem Xm8 : En Tryz.prog 185 := fun _ _ => by kernel_rfl
theorem Xl2 : En Tryz.prog 110 := fun _ _ => by kernel_rfl
theorem Xcu : En Tryz.prog 105 := fun _ _ => by kernel_rfl
theorem Qpv {p0 r} (hm : Qm6 p0 = some r) {w : World} :
    Calls Tryz.prog 234 [wv p0].toArray w fun e w' => ∃ v, e = .returned v ∧ (v = .bool r ∧ Gr w w') := by
 unfold Qm6 at hm
 refine Qa5 21 Tryz.func234 rfl rfl rfl<|qs 1 rfl<|qm rfl<|Qa1<|Qa3<|qj (β := Bool) (rg 4 6) (fun a1 => [(9, .bool a1)]) (fun a1 wr => (Qj6 p0 a1 = some r) ∧ Kz [] w wr) ?_ ?_
 · refine qg 6 rfl<|qm rfl<|qv rfl (Qqs (c := p0) (d := 2#64) rfl rfl)<|qp rfl (Qad rfl) (fun c4 => ?_) (fun c4 => ?_)
   · replace hm := iT c4 hm
     refine qk rfl<|qk rfl<|qm rfl<|Qa9 ?_
     exact ⟨rfl, true, sbq, hm, kz0⟩
   replace hm := iF c4 hm
   refine qm rfl<|qv rfl (Qvr (c := p0) (d := 1048575#64) rfl rfl)<|qm rfl<|Qa9 ?_
   exact ⟨rfl, (decide (1048575#64 < p0)), sbq, hm, kz0⟩
 clear hm; rintro a1 w1 ⟨hm, K1⟩
 unfold Qj6 at hm
 refine Qal rfl (fun c1 => ?_) (fun c1 => ?_)
 · replace hm := Qc0 c1 hm
   refine qs 1 rfl<|qm rfl<|qb ?_
   have X2 := ((Gr.refl w).kz K1)
   cases hm
   refine ⟨_, _, rfl, Qay rfl (Qac rfl), ?_⟩
   exact ⟨rfl, X2⟩
 replace hm := Qc1 c1 hm
 refine qu<|Qa3<|qs 1 rfl<|qm rfl<|Qa1 ?_
 refine Qao ?_
 have X3 := ((Gr.refl w).kz K1)
 refine Qbk (α := Nat × BitVec 64) ([2, 3] ++ rg 10 11) (fun ⟨n2, a3⟩ => [(2, .bool false), (3, wv a3)]) (fun ⟨n2, a3⟩ wr => (Qcr (Qjj p0) n2 a3 = some r) ∧ Kz [] w1 wr) (fun ⟨n2, a3⟩ => n2) ⟨Qdn, 2#64⟩ ?_ ?_ ?_
 · exact sbq
 · exact ⟨hm, Kz.refl _ _⟩
 clear hm; rintro ⟨n2, a3⟩ w2 ⟨hm, K2⟩
 have hb := Qbt hm; clear hm; obtain ⟨n2, rfl, hm⟩ := hb
 generalize f : Qcr (Qjj p0) n2 = h at hm
 unfold Qjj at hm
 try dsimp only at hm
 refine Qa3<|qs 5 rfl<|qm rfl<|qm rfl<|qv rfl (Qtb (a := a3) (b := a3) rfl rfl)<|qm rfl ?_
 refine qv rfl (Xir (c := a3 * a3) (d := p0) rfl rfl)<|Qa1<|cnF rfl (fun c2 => ?_) (fun c2 => ?_)
 · replace hm := iF c2 hm
   refine Qbq<|Qb6<|Qb6<|Qbo<|Qaz<|qs 1 rfl ?_
   refine qm rfl<|Qa1<|Qaf ?_
   have X7 := (X3.kz K2)
   cases hm
   refine ⟨_, _, rfl, Qay rfl (Qac rfl), ?_⟩
   exact ⟨rfl, X7⟩
 replace hm := iT c2 hm
 refine qu<|Qa3<|Qao<|qs 4 rfl<|qm rfl ?_
 refine qm rfl ?_
 obtain ⟨x4, g, hm⟩ := bnd hm
 refine qv rfl (Qkh (c := p0) (d := a3) rfl rfl g)<|qv rfl (Qqt (c := x4) (d := 0#64) rfl rfl)<|Qa1<|Qal rfl (fun c3 => ?_) (fun c3 => ?_)
 · replace hm := iT c3 hm
   refine qs 1 rfl<|qm rfl<|Qa1<|Qaf<|Qbl<|Qb2 ?_
   refine Qb2<|Qbl<|Qb2 ?_
   have X5 := (X3.kz K2)
   cases hm
   refine ⟨_, _, rfl, Qay rfl (Qac rfl), ?_⟩
   exact ⟨rfl, X5⟩
 replace hm := iF c3 hm
 refine Qc5<|Qb1<|Qaz<|qg 3 rfl<|qm rfl<|qv rfl (Qrw (a := a3) (b := 1#64) rfl rfl)<|qm rfl ?_
 refine Qa9 ?_
 have K_6 : Kz [] w1 w2 := K2
 subst f
 exact ⟨rfl, ⟨n2, a3 + 1#64⟩, sbq, ⟨hm, K_6⟩, Nat.lt_succ_self _⟩
theorem Qpz {p0 p1 p2 r} (hm : Qmj p0 p1 p2 = some r) {w : World} :
    Calls Tryz.prog 235 [wv p0, wv p1, wv p2].toArray w fun e w' => ∃ v, e = .returned v ∧ (v = wv r ∧ Gr w w') := by
 unfold Qmj at hm
 refine Qa5 31 Tryz.func235 rfl rfl rfl<|qs 1 rfl<|qm rfl<|qd 3 rfl ?_
 refine qm rfl ?_
 obtain ⟨x1, i, hm⟩ := bnd hm
 refine qv rfl (Qkh (c := 1#64) (d := p2) rfl rfl i)<|qm rfl<|Qa1<|Qa3<|qs 4 rfl<|qm rfl ?_
 refine qm rfl ?_
 obtain ⟨x2, j, hm⟩ := bnd hm
 refine qv rfl (Qkh (c := p0) (d := p2) rfl rfl j)<|qm rfl<|Qa1<|Qao<|Qbk (α := Nat × BitVec 64 × BitVec 64 × BitVec 64) ([0, 1, 7] ++ rg 13 17) (fun ⟨n1, a6, a7, a8⟩ => [(0, wv a6), (1, wv a7), (7, wv a8)]) (fun ⟨n1, a6, a7, a8⟩ wr => (Qcr (Qja p2) n1 (a6, a7, a8) = some r) ∧ Kz [] w wr) (fun ⟨n1, a6, a7, a8⟩ => n1) ⟨Qdn, x2, p1, x1⟩ ?_ ?_ ?_
 · exact sbq
 · exact ⟨hm, Kz.refl _ _⟩
 clear hm; rintro ⟨n1, a6, a7, a8⟩ w1 ⟨hm, K1⟩
 have hb := Qbt hm; clear hm; obtain ⟨n1, rfl, hm⟩ := hb
 generalize f : Qcr (Qja p2) n1 = p at hm
 unfold Qja at hm
 try dsimp only at hm
 refine Qa3<|qs 2 rfl<|qm rfl<|qv rfl (Qvr (c := a7) (d := 0#64) rfl rfl)<|Qa1<|cnF rfl (fun c1 => ?_) (fun c1 => ?_)
 · replace hm := iF c1 hm
   refine Qbq<|Qb6<|Qb6<|Qbo<|Qaz<|qs 2 rfl ?_
   refine qm rfl<|qm rfl<|Qa1<|Qaf ?_
   have X4 := ((Gr.refl w).kz K1)
   cases hm
   refine ⟨_, _, rfl, Qay rfl (Qac rfl), ?_⟩
   exact ⟨rfl, X4⟩
 replace hm := iT c1 hm
 refine qu<|Qa3<|Qao<|Qa3<|qs 3 rfl ?_
 refine qm rfl<|qv rfl (Xhh (a := a7) (b := 1#64) rfl rfl)<|qv rfl (Qqt (c := a7 &&& 1#64) (d := 1#64) rfl rfl)<|Qa1<|cnF rfl (fun c2 => ?_) (fun c2 => ?_)
 · replace hm := iF c2 hm
   refine qu<|qg 6 rfl<|qm rfl<|qm rfl<|qv rfl (Qtb (a := a6) (b := a6) rfl rfl)<|qm rfl ?_
   obtain ⟨k, g, hm⟩ := bnd hm
   refine qv rfl (Qkh (c := a6 * a6) (d := p2) rfl rfl g)<|qm rfl<|Qa9<|Qb1<|Qaz<|qg 3 rfl<|qm rfl ?_
   obtain ⟨l, hn13, hm⟩ := bnd hm
   refine qv rfl (Qt1 (c := a7) (b := (un 1#64)) rfl rfl hn13)<|qm rfl<|Qa9 ?_
   have K_3 : Kz [] w w1 := K1
   subst f
   exact ⟨rfl, ⟨n1, k, a7 >>> l, a8⟩, sbq, ⟨hm, K_3⟩, Nat.lt_succ_self _⟩
 replace hm := iT c2 hm
 refine qg 6 rfl<|qm rfl<|qm rfl<|qv rfl (Qtb (a := a8) (b := a6) rfl rfl)<|qm rfl ?_
 obtain ⟨x9, m, hm⟩ := bnd hm
 refine qv rfl (Qkh (c := a8 * a6) (d := p2) rfl rfl m)<|qm rfl<|Qa1<|qg 6 rfl<|qm rfl<|qm rfl<|qv rfl (Qtb (a := a6) (b := a6) rfl rfl) ?_
 refine qm rfl ?_
 obtain ⟨n, h, hm⟩ := bnd hm
 refine qv rfl (Qkh (c := a6 * a6) (d := p2) rfl rfl h)<|qm rfl<|Qa9<|Qb1<|Qaz<|qg 3 rfl<|qm rfl ?_
 obtain ⟨o, hn11, hm⟩ := bnd hm
 refine qv rfl (Qt1 (c := a7) (b := (un 1#64)) rfl rfl hn11)<|qm rfl<|Qa9 ?_
 have K_2 : Kz [] w w1 := K1
 subst f
 exact ⟨rfl, ⟨n1, n, a7 >>> o, x9⟩, sbq, ⟨hm, K_2⟩, Nat.lt_succ_self _⟩
theorem Qqg {p0 r} (hm : Qju p0 = some r) {w : World} :
    Calls Tryz.prog 179 [.agg (Qfc.cs p0).toArray].toArray w fun e w' => ∃ v, e = .returned v ∧ (v = .int .i64 r ∧ Gr w w') := by
 unfold Qju at hm
 refine Qa5 44 Tryz.func179 rfl rfl rfl<|qs 2 rfl<|qe rfl (Qat (cs := Qfc.cs p0) rfl rfl) ?_
 rintro _ w1 ⟨b1, rfl, l, g, G1⟩
 refine qm rfl<|Qa1<|Qa3 ?_
 have X3 := ((Gr.refl w).trans G1)
 refine qj (β := Bool) (rg 3 41) (fun a1 => [(43, .bool a1)]) (fun a1 wr => (Qcs a1 = some r) ∧ Kz [] w1 wr) ?_ ?_
 · refine qg 41 rfl<|qv rfl (Qa0 Qpf rfl)<|qv rfl (Qa2 (v := wv p0.P) Qb7 rfl g rfl) ?_
   obtain ⟨x2, h, hm⟩ := bnd hm
   refine qe rfl (eC Xh7 rfl (Qpv h)) ?_
   rintro _ w3 ⟨rfl, G3⟩
   refine qv rfl (Qci rfl)<|qp rfl (Qad rfl) (fun c2 => ?_) (fun c2 => ?_)
   · replace hm := Qc0 c2 hm
     refine qk rfl<|qk rfl<|qk rfl<|qk rfl<|qm rfl<|qm rfl<|qk rfl ?_
     refine qk rfl<|qk rfl<|qk rfl<|qk rfl<|qk rfl<|qk rfl<|qm rfl ?_
     refine qm rfl<|qk rfl<|qk rfl<|qk rfl<|qm rfl<|qm rfl<|qk rfl ?_
     refine qk rfl<|qk rfl<|qk rfl<|qk rfl<|qm rfl<|qm rfl<|qk rfl ?_
     refine qk rfl<|qk rfl<|qk rfl<|qk rfl<|qk rfl<|qk rfl<|qk rfl ?_
     refine qm rfl<|Qa9 ?_
     exact ⟨rfl, true, sbq, hm, (kz0.gr G3)⟩
   replace hm := Qc1 c2 hm
   refine qv rfl (Qa0 Qlo rfl) ?_
   have B9 := (g.gr G3)
   refine qv rfl (Qa2 (v := wv p0.Q) Qb7 rfl B9 rfl) ?_
   obtain ⟨x3, i, hm⟩ := bnd hm
   refine qe rfl (eC Xh7 rfl (Qpv i)) ?_
   rintro _ w4 ⟨rfl, G4⟩
   refine qv rfl (Qci rfl)<|qm rfl<|qp rfl (Qad rfl) (fun c3 => ?_) (fun c3 => ?_)
   · replace hm := Qc0 c3 hm
     refine qk rfl<|qk rfl<|qk rfl<|qk rfl<|qk rfl<|qk rfl<|qk rfl ?_
     refine qm rfl<|qm rfl<|qk rfl<|qk rfl<|qk rfl<|qm rfl<|qm rfl ?_
     refine qk rfl<|qk rfl<|qk rfl<|qk rfl<|qk rfl<|qm rfl<|qm rfl ?_
     refine qk rfl<|qk rfl<|qk rfl<|qk rfl<|qk rfl<|qk rfl<|qk rfl ?_
     refine qk rfl<|qm rfl<|Qa9 ?_
     have Y1 := Gr.trans G3 G4
     exact ⟨rfl, true, sbq, hm, (kz0.gr Y1)⟩
   replace hm := Qc1 c3 hm
   refine qv rfl (Qa0 Qpf rfl) ?_
   have f := (B9.gr G4)
   refine qv rfl (Qa2 (v := wv p0.P) Qb7 rfl f rfl)<|qv rfl (Quv (a := p0.P) (b := 1#64) rfl rfl)<|qv rfl (Qa0 Qlo rfl)<|qv rfl (Qa2 (v := wv p0.Q) Qb7 rfl f rfl) ?_
   obtain ⟨x4, j, hm⟩ := bnd hm
   refine qv rfl (Qkh (c := p0.P - 1#64) (d := p0.Q) rfl rfl j)<|qv rfl (Qv4 (c := x4) (d := 0#64) rfl rfl)<|qm rfl<|qp rfl (Qad rfl) (fun c4 => ?_) (fun c4 => ?_)
   · replace hm := iT c4 hm
     refine qk rfl<|qk rfl<|qk rfl<|qm rfl<|qm rfl<|qk rfl<|qk rfl ?_
     refine qk rfl<|qk rfl<|qk rfl<|qm rfl<|qm rfl<|qk rfl<|qk rfl ?_
     refine qk rfl<|qk rfl<|qk rfl<|qk rfl<|qk rfl<|qk rfl<|qm rfl ?_
     refine Qa9 ?_
     have Y2 := Gr.trans G3 G4
     exact ⟨rfl, true, sbq, hm, (kz0.gr Y2)⟩
   replace hm := iF c4 hm
   refine qv rfl (Qa0 Qvn rfl)<|qv rfl (Qa2 (v := wv p0.G) Qb7 rfl f rfl)<|qv rfl (Qqs (c := p0.G) (d := 2#64) rfl rfl)<|qm rfl<|qp rfl (Qad rfl) (fun c5 => ?_) (fun c5 => ?_)
   · replace hm := iT c5 hm
     refine qk rfl<|qk rfl<|qk rfl<|qk rfl<|qk rfl<|qm rfl<|qm rfl ?_
     refine qk rfl<|qk rfl<|qk rfl<|qk rfl<|qk rfl<|qk rfl<|qk rfl ?_
     refine qk rfl<|qm rfl<|Qa9 ?_
     have Y3 := Gr.trans G3 G4
     exact ⟨rfl, true, sbq, hm, (kz0.gr Y3)⟩
   replace hm := iF c5 hm
   refine qv rfl (Qa0 Qvn rfl)<|qv rfl (Qa2 (v := wv p0.G) Qb7 rfl f rfl)<|qv rfl (Qa0 Qpf rfl)<|qv rfl (Qa2 (v := wv p0.P) Qb7 rfl f rfl)<|qv rfl (Qty (c := p0.G) (d := p0.P) rfl rfl)<|qm rfl<|qp rfl (Qad rfl) (fun c6 => ?_) (fun c6 => ?_)
   · replace hm := iT c6 hm
     refine qk rfl<|qk rfl<|qk rfl<|qk rfl<|qk rfl<|qk rfl<|qk rfl ?_
     refine qk rfl<|qm rfl<|Qa9 ?_
     have Y4 := Gr.trans G3 G4
     exact ⟨rfl, true, sbq, hm, (kz0.gr Y4)⟩
   replace hm := iF c6 hm
   refine qv rfl (Qa0 Qvn rfl)<|qv rfl (Qa2 (v := wv p0.G) Qb7 rfl f rfl)<|qv rfl (Qa0 Qlo rfl)<|qv rfl (Qa2 (v := wv p0.Q) Qb7 rfl f rfl)<|qv rfl (Qa0 Qpf rfl)<|qv rfl (Qa2 (v := wv p0.P) Qb7 rfl f rfl) ?_
   obtain ⟨x5, k, hm⟩ := bnd hm
   refine qe rfl (eC Xh6 rfl (Qpz k)) ?_
   rintro _ w5 ⟨rfl, G5⟩
   refine qv rfl (Qv4 (c := x5) (d := 1#64) rfl rfl)<|qm rfl<|Qa9 ?_
   exact ⟨rfl, (decide (x5 ≠ 1#64)), sbq, hm, (((kz0.gr G3).gr G4).gr G5)⟩
 clear hm; rintro a1 w2 ⟨hm, K2⟩
 unfold Qcs at hm
 refine Qal rfl (fun c1 => ?_) (fun c1 => ?_)
 · replace hm := Qc0 c1 hm
   refine qs 1 rfl<|qm rfl<|qb ?_
   have X5 := (X3.kz K2)
   cases hm
   refine ⟨_, _, rfl, Qay rfl (Qac rfl), ?_⟩
   exact ⟨rfl, X5⟩
 replace hm := Qc1 c1 hm
 refine qu<|qs 1 rfl<|qm rfl<|Qa1<|Qaf ?_
 have X6 := (X3.kz K2)
 cases hm
 refine ⟨_, _, rfl, Qay rfl (Qac rfl), ?_⟩
 exact ⟨rfl, X6⟩
theorem Qm3 {p0 r} (hm : Qle p0 = some r) {w : World} :
    Calls Tryz.prog 98 [.agg (Qaj.cs p0).toArray].toArray w fun e w' => ∃ v, e = .returned v ∧ (v = .bool r ∧ Gr w w') := by
 unfold Qle at hm
 refine Qa5 45 Tryz.func98 rfl rfl rfl<|qs 2 rfl<|qe rfl (Qat (cs := Qaj.cs p0) rfl rfl) ?_
 rintro _ w1 ⟨b1, rfl, l, f, G1⟩
 refine qm rfl<|Qa1<|Qa3<|dw [([])] [] (.leaf [(0,10),(1,10),(2,10),(3,10),(4,10),(5,10),(6,10),(7,10),(8,10),(9,10),(10,10),(11,10),(12,10),(13,10),(14,10),(15,10),(16,10),(17,10),(18,10),(19,10),(20,10),(21,10),(22,10),(23,10),(24,10),(25,10),(26,0),(27,10),(28,10),(29,10),(30,10),(31,10),(32,10),(33,10),(34,10),(35,10),(36,10),(37,10),(38,10),(39,10),(40,10),(41,10),(42,10)]) ?_
 intro w2 G2 m
 refine Qam<|dh 0 rfl rfl (fun w hS => Qa0 Qhj rfl) ?_
 have B3 := (f.gr G2)
 refine dh 0 rfl rfl (fun w hS => Qa2 (v := bv p0.Kind) Qcd rfl (Bx.kp B3 hS) rfl)<|dh 0 rfl rfl (fun w hS => Qga (p := p0.Kind) (q := 4#8) rfl rfl)<|qqF 0 rfl rfl (Kp.refl ([]) w2) (fun w hS => Qad rfl) (fun c1 => ?_) (fun c1 => ?_)
 · replace hm := iF c1 hm
   refine dx 0 rfl rfl<|dx 0 rfl rfl<|dx 0 rfl rfl<|dm 0 rfl rfl<|dm 0 rfl rfl<|dx 0 rfl rfl<|dx 0 rfl rfl ?_
   refine dx 0 rfl rfl<|dm 0 rfl rfl<|dm 0 rfl rfl<|dx 0 rfl rfl<|dx 0 rfl rfl<|dx 0 rfl rfl<|dm 0 rfl rfl ?_
   refine dm 0 rfl rfl<|dx 0 rfl rfl<|dx 0 rfl rfl<|dx 0 rfl rfl<|dm 0 rfl rfl<|dm 0 rfl rfl<|dx 0 rfl rfl ?_
   refine dx 0 rfl rfl<|qy rfl<|dx 0 rfl rfl<|dm 0 rfl rfl<|dm 0 rfl rfl<|dx 0 rfl rfl<|dx 0 rfl rfl ?_
   refine dx 0 rfl rfl<|dx 0 rfl rfl<|dx 0 rfl rfl<|dx 0 rfl rfl<|dx 0 rfl rfl<|dx 0 rfl rfl<|dx 0 rfl rfl ?_
   refine dx 0 rfl rfl<|dx 0 rfl rfl<|dm 0 rfl rfl<|dm 0 rfl rfl<|Qa1<|Qaf ?_
   have Y1 := Gr.trans G1 G2
   have g := ((Gr.refl w).trans Y1)
   cases hm
   refine ⟨_, _, rfl, Qay rfl (Qac rfl), ?_⟩
   exact ⟨rfl, g⟩
 replace hm := iT c1 hm
 refine dh 0 rfl rfl (fun w hS => Qa0 Qlq rfl)<|dh 0 rfl rfl (fun w hS => Qa2 (v := .int .i64 p0.Depth) Qb3 rfl (Bx.kp B3 hS) rfl)<|dh 0 rfl rfl (fun w hS => Qdy (a := p0.Depth) (b := 0) rfl rfl)<|dm 0 rfl rfl<|qqF 0 rfl rfl (Kp.refl ([]) w2) (fun w hS => Qad rfl) (fun c2 => ?_) (fun c2 => ?_)
 · replace hm := iF c2 hm
   refine dx 0 rfl rfl<|dx 0 rfl rfl<|dx 0 rfl rfl<|dm 0 rfl rfl<|dm 0 rfl rfl<|dx 0 rfl rfl<|dx 0 rfl rfl ?_
   refine dx 0 rfl rfl<|dm 0 rfl rfl<|dm 0 rfl rfl<|dx 0 rfl rfl<|dx 0 rfl rfl<|dx 0 rfl rfl<|dm 0 rfl rfl ?_
   refine dm 0 rfl rfl<|dx 0 rfl rfl<|dx 0 rfl rfl<|qy rfl<|dx 0 rfl rfl<|dm 0 rfl rfl<|dm 0 rfl rfl ?_
   refine dx 0 rfl rfl<|dx 0 rfl rfl<|dx 0 rfl rfl<|dx 0 rfl rfl<|dx 0 rfl rfl<|dx 0 rfl rfl<|dx 0 rfl rfl ?_
   refine dx 0 rfl rfl<|dx 0 rfl rfl<|dx 0 rfl rfl<|dx 0 rfl rfl<|dm 0 rfl rfl<|dm 0 rfl rfl<|Qa1 ?_
   refine Qaf ?_
   have Y2 := Gr.trans G1 G2
   have h := ((Gr.refl w).trans Y2)
   cases hm
   refine ⟨_, _, rfl, Qay rfl (Qac rfl), ?_⟩
   exact ⟨rfl, h⟩
 replace hm := iT c2 hm
 refine dh 0 rfl rfl (fun w hS => Qa0 Qlq rfl)<|dh 0 rfl rfl (fun w hS => Qa2 (v := .int .i64 p0.Depth) Qb3 rfl (Bx.kp B3 hS) rfl)<|dh 0 rfl rfl (fun w hS => Qn9 (a := p0.Depth) (b := 6) rfl rfl)<|dm 0 rfl rfl<|qqF 0 rfl rfl (Kp.refl ([]) w2) (fun w hS => Qad rfl) (fun c3 => ?_) (fun c3 => ?_)
 · replace hm := iF c3 hm
   refine dx 0 rfl rfl<|dx 0 rfl rfl<|dx 0 rfl rfl<|dm 0 rfl rfl<|dm 0 rfl rfl<|dx 0 rfl rfl<|dx 0 rfl rfl ?_
   refine dx 0 rfl rfl<|dm 0 rfl rfl<|dm 0 rfl rfl<|dx 0 rfl rfl<|dx 0 rfl rfl<|qy rfl<|dx 0 rfl rfl ?_
   refine dm 0 rfl rfl<|dm 0 rfl rfl<|dx 0 rfl rfl<|dx 0 rfl rfl<|dx 0 rfl rfl<|dx 0 rfl rfl<|dx 0 rfl rfl ?_
   refine dx 0 rfl rfl<|dx 0 rfl rfl<|dx 0 rfl rfl<|dx 0 rfl rfl<|dx 0 rfl rfl<|dx 0 rfl rfl<|dm 0 rfl rfl ?_
   refine dm 0 rfl rfl<|Qa1<|Qaf ?_
   have Y3 := Gr.trans G1 G2
   have i := ((Gr.refl w).trans Y3)
   cases hm
   refine ⟨_, _, rfl, Qay rfl (Qac rfl), ?_⟩
   exact ⟨rfl, i⟩
 replace hm := iT c3 hm
 refine dh 0 rfl rfl (fun w hS => Qa0 Qqr rfl)<|dh 0 rfl rfl (fun w hS => Qa2 (v := .int .i64 p0.Degree) Qb3 rfl (Bx.kp B3 hS) rfl)<|dh 0 rfl rfl (fun w hS => Qdy (a := p0.Degree) (b := 1) rfl rfl)<|dm 0 rfl rfl<|qqF 0 rfl rfl (Kp.refl ([]) w2) (fun w hS => Qad rfl) (fun c4 => ?_) (fun c4 => ?_)
 · replace hm := iF c4 hm
   refine dx 0 rfl rfl<|dx 0 rfl rfl<|dx 0 rfl rfl<|dm 0 rfl rfl<|dm 0 rfl rfl<|dx 0 rfl rfl<|dx 0 rfl rfl ?_
   refine qy rfl<|dx 0 rfl rfl<|dm 0 rfl rfl<|dm 0 rfl rfl<|dx 0 rfl rfl<|dx 0 rfl rfl<|dx 0 rfl rfl ?_
   refine dx 0 rfl rfl<|dx 0 rfl rfl<|dx 0 rfl rfl<|dx 0 rfl rfl<|dx 0 rfl rfl<|dx 0 rfl rfl<|dx 0 rfl rfl ?_
   refine dx 0 rfl rfl<|dm 0 rfl rfl<|dm 0 rfl rfl<|Qa1<|Qaf ?_
   have Y4 := Gr.trans G1 G2
   have X9 := ((Gr.refl w).trans Y4)
   cases hm
   refine ⟨_, _, rfl, Qay rfl (Qac rfl), ?_⟩
   exact ⟨rfl, X9⟩
 replace hm := iT c4 hm
 refine dh 0 rfl rfl (fun w hS => Qa0 Qqr rfl)<|dh 0 rfl rfl (fun w hS => Qa2 (v := .int .i64 p0.Degree) Qb3 rfl (Bx.kp B3 hS) rfl)<|dh 0 rfl rfl (fun w hS => Qn9 (a := p0.Degree) (b := 8) rfl rfl)<|dm 0 rfl rfl<|qqF 0 rfl rfl (Kp.refl ([]) w2) (fun w hS => Qad rfl) (fun c5 => ?_) (fun c5 => ?_)
 · replace hm := iF c5 hm
   refine dx 0 rfl rfl<|dx 0 rfl rfl<|qy rfl<|dx 0 rfl rfl<|dm 0 rfl rfl<|dm 0 rfl rfl<|dx 0 rfl rfl ?_
   refine dx 0 rfl rfl<|dx 0 rfl rfl<|dx 0 rfl rfl<|dx 0 rfl rfl<|dx 0 rfl rfl<|dx 0 rfl rfl<|dx 0 rfl rfl ?_
   refine dx 0 rfl rfl<|dx 0 rfl rfl<|dx 0 rfl rfl<|dm 0 rfl rfl<|dm 0 rfl rfl<|Qa1<|Qaf ?_
   have Y5 := Gr.trans G1 G2
   have X8 := ((Gr.refl w).trans Y5)
   cases hm
   refine ⟨_, _, rfl, Qay rfl (Qac rfl), ?_⟩
   exact ⟨rfl, X8⟩
 replace hm := iT c5 hm
 refine dh 0 rfl rfl (fun w hS => Qa0 Qjd rfl)<|dh 0 rfl rfl (fun w hS => Qb9 (vs := Qfc.cs p0.Group) Xcs rfl (Bx.kp B3 hS) rfl rfl) ?_
 obtain ⟨x1, j, hm⟩ := bnd hm
 refine qz [] rfl (eC Xjw rfl (Qqg j)) ⟨fun _ => tk0, trivial⟩ ?_
 rintro _ w3 ⟨rfl, G3⟩
 refine kG G3 ?_
 have S5 := ((Kp.refl ([]) w2).gr G3)
 refine qh 0 rfl rfl S5 (fun w hS => Qdj (a := x1) (b := 0) rfl rfl)<|dn 0 rfl rfl S5<|qqF 0 rfl rfl S5 (fun w hS => Qad rfl) (fun c6 => ?_) (fun c6 => ?_)
 · replace hm := iF c6 hm
   refine qx 0 rfl rfl S5<|qx 0 rfl rfl S5<|qx 0 rfl rfl S5<|qx 0 rfl rfl S5<|qx 0 rfl rfl S5<|qx 0 rfl rfl S5<|qx 0 rfl rfl S5 ?_
   refine qx 0 rfl rfl S5<|qx 0 rfl rfl S5<|qx 0 rfl rfl S5<|qx 0 rfl rfl S5<|dn 0 rfl rfl S5<|dn 0 rfl rfl S5<|Qa1 ?_
   refine Qaf ?_
   have X7 := ((((Gr.refl w).trans G1).trans G2).trans G3)
   cases hm
   refine ⟨_, _, rfl, Qay rfl (Qac rfl), ?_⟩
   exact ⟨rfl, X7⟩
 replace hm := iT c6 hm
 refine qh 0 rfl rfl S5 (fun w hS => Qa0 Qjd rfl)<|qh 0 rfl rfl S5 (fun w hS => Qa0 Qlo rfl)<|qh 0 rfl rfl S5 (fun w hS => Qa2 (v := wv p0.Group.Q) Qb7 rfl (Bx.kp B3 hS) rfl)<|qh 0 rfl rfl S5 (fun w hS => Qa0 Qlq rfl)<|qh 0 rfl rfl S5 (fun w hS => Qa2 (v := .int .i64 p0.Depth) Qb3 rfl (Bx.kp B3 hS) rfl) ?_
 obtain ⟨n2, hn2, hm⟩ := bnd hm
 refine qh 0 rfl rfl S5 (fun w hS => Qrz (a := 1) (b := p0.Depth) rfl rfl hn2)<|qh 0 rfl rfl S5 (fun w hS => Qa0 Qqr rfl)<|qh 0 rfl rfl S5 (fun w hS => Qa2 (v := .int .i64 p0.Degree) Qb3 rfl (Bx.kp B3 hS) rfl)<|qh 0 rfl rfl S5 (fun w hS => Qc6 (k := .i64) (a := Qvz 1 n2) (b := p0.Degree) rfl rfl)<|qh 0 rfl rfl S5 (fun w hS => Qer Qf5 rfl)<|qh 0 rfl rfl S5 (fun w hS => Qvr (c := p0.Group.Q) (d := wd (w64 ((Qvz 1 n2) + p0.Degree))) rfl rfl)<|dn 0 rfl rfl S5 ?_
 refine dn 0 rfl rfl S5<|Qa1<|Qaf ?_
 have X6 := ((((Gr.refl w).trans G1).trans G2).trans G3)
 cases hm
 refine ⟨_, _, rfl, Qay rfl (Qac rfl), ?_⟩
 exact ⟨rfl, X6⟩
theorem Qmm {p0 r} (hm : Qlf p0 = some r) {w : World} :
    Calls Tryz.prog 139 [.agg (Qaj.cs p0).toArray].toArray w fun e w' => ∃ v, e = .returned v ∧ (v = .int .i64 r ∧ Gr w w') := by
 unfold Qlf at hm
 refine Qa5 6 Tryz.func139 rfl rfl rfl<|qs 2 rfl<|qe rfl (Qat (cs := Qaj.cs p0) rfl rfl) ?_
 rintro _ w1 ⟨b1, rfl, c, a, G1⟩
 refine qm rfl<|Qa1<|Qa3<|qs 3 rfl<|qv rfl (Qa6 Qcq rfl a rfl) ?_
 obtain ⟨x1, b, hm⟩ := bnd hm
 refine qe rfl (eC Xeb rfl (Qm3 b)) ?_
 rintro _ w2 ⟨rfl, G2⟩
 refine qv rfl (Qci rfl)<|Qa1<|Qal rfl (fun c1 => ?_) (fun c1 => ?_)
 · replace hm := Qc0 c1 hm
   refine qs 1 rfl<|qm rfl<|qb ?_
   have X4 := (((Gr.refl w).trans G1).trans G2)
   cases hm
   refine ⟨_, _, rfl, Qay rfl (Qac rfl), ?_⟩
   exact ⟨rfl, X4⟩
 replace hm := Qc1 c1 hm
 refine qu<|qs 1 rfl<|qm rfl<|Qa1<|Qaf ?_
 have X5 := (((Gr.refl w).trans G1).trans G2)
 cases hm
 refine ⟨_, _, rfl, Qay rfl (Qac rfl), ?_⟩
 exact ⟨rfl, X5⟩
theorem Qsq {p0 r} (hm : Qmv p0 = some r) {w : World} :
    Calls Tryz.prog 175 [kv p0].toArray w fun e w' => ∃ v, e = .returned v ∧ (v = .agg (Qb5.cs r).toArray ∧ Gr w w') := by
 unfold Qmv at hm
 refine Qa5 29 Tryz.func175 rfl rfl rfl<|qs 2 rfl<|qe rfl (Qat (cs := kb p0) rfl rfl) ?_
 rintro _ w1 ⟨b1, rfl, A, l, G1⟩
 have E := l.lt
 refine qe rfl (Qaa (cs := Qb5.cs (Qb5.mk 0#64 0#64)) Qoa rfl) ?_
 rintro _ w2 ⟨b2, rfl, B, m, G2⟩
 have F := m.lt
 refine qd 1 rfl<|qe rfl (Qaa (cs := Qb5.cs (Qb5.mk 0#64 0#64)) Qoa rfl) ?_
 rintro _ w3 ⟨b3, rfl, C, q, G3⟩
 refine Qa1<|Qa3<|qs 1 rfl<|qm rfl<|Qa1<|Qao ?_
 have X7 := ((((Gr.refl w).trans G1).trans G2).trans G3)
 refine Qbk (α := Nat × Int × BitVec 64 × BitVec 64) (rg 4 24) (fun ⟨n1, a4, a5, a6⟩ => [(5, .int .i64 a4)]) (fun ⟨n1, a4, a5, a6⟩ wr => (Qcr (Qhp p0) n1 (a4, a5, a6) = some r) ∧ Bx wr b3 233 (Qb5.cs (Qb5.mk a5 a6)) ∧ Kz [(1, b3)] w3 wr) (fun ⟨n1, a4, a5, a6⟩ => n1) ⟨Qdn, 0, 0#64, 0#64⟩ ?_ ?_ ?_
 · exact sbq
 · exact ⟨hm, q, Kz.refl _ _⟩
 clear hm; rintro ⟨n1, a4, a5, a6⟩ w4 ⟨hm, d, K4⟩
 have hb := Qbt hm; clear hm; obtain ⟨n1, rfl, hm⟩ := hb
 generalize g : Qcr (Qhp p0) n1 = D at hm
 unfold Qhp at hm
 try dsimp only at hm
 refine qs 1 rfl<|qv rfl (Qc9 (a := a4) (b := 8) rfl rfl)<|Qa1<|Qa3<|cnF rfl (fun c1 => ?_) (fun c1 => ?_)
 · replace hm := iF c1 hm
   refine Qbq<|Qb6<|Qb6<|Qbo<|Qaz<|qs 2 rfl ?_
   refine qv rfl (Qa6 Qf6 rfl d rfl) ?_
   have s := ((m.gr G3).kz K4)
   refine qe rfl (Qah Qf6 rfl rfl rfl s rfl rfl) ?_
   rintro _ w8 ⟨t, M8⟩
   refine Qa1<|Qaf ?_
   have u := ((X7.kz K4).md M8)
   cases hm
   refine ⟨_, _, rfl, Qay rfl (Qaq Qf6 rfl t rfl), ?_⟩
   exact ⟨rfl, u⟩
 replace hm := iT c1 hm
 refine qu<|Qa3<|Qao<|qs 2 rfl<|qm rfl ?_
 refine qm rfl<|Qa1<|dw [([b3]),([])] [(18, [1]),(20, [1])] (.leaf [(0,10),(1,11),(2,10),(3,10),(4,10),(5,10),(6,10),(7,10),(8,10),(9,11),(10,10),(11,10),(12,10),(13,10),(14,10),(15,10),(16,10),(17,10),(18,0),(19,10),(20,0)]) ?_
 intro w5 G5 G
 refine Qam<|dh 0 rfl rfl (fun w hS => Qa0 Qk6 rfl) ?_
 have h := (d.gr G5)
 refine dh 1 rfl rfl (fun w hS => Qa2 (v := wv a5) Qb7 rfl (Bx.kp h hS) rfl) ?_
 obtain ⟨n7, hn7, hm⟩ := bnd hm
 refine dh 0 rfl rfl (fun w hS => Qv6 (c := a5) (b := (un 8#64)) rfl rfl hn7)<|dm 0 rfl rfl ?_
 obtain ⟨y8, n, hm⟩ := bnd hm
 refine dh 0 rfl rfl (fun w hS => Qsf (i := a4) (p := p0) Tryz.underlying23 (Qcd).siz rfl rfl n) ?_
 have o := ((((l.gr G2).gr G3).kz K4).gr G5)
 refine dh 0 rfl rfl (fun w hS => Qw9 (off := 0) (p := p0) (i := a4) Qcd rfl (Bx.kp o hS) rfl n (by omega))<|dh 0 rfl rfl (fun w hS => Qru Qms rfl)<|dh 0 rfl rfl (fun w hS => Qsi (a := a5 <<< n7) (b := y8.setWidth 64) rfl rfl)<|dh 0 rfl rfl (fun w hS => Qa0 Qjk rfl)<|dh 1 rfl rfl (fun w hS => Qa2 (v := wv a6) Qb7 rfl (Bx.kp h hS) rfl) ?_
 obtain ⟨n9, hn9, hm⟩ := bnd hm
 refine dh 0 rfl rfl (fun w hS => Qv6 (c := a6) (b := (un 8#64)) rfl rfl hn9)<|dm 0 rfl rfl<|dh 0 rfl rfl (fun w hS => Qc6 (k := .i64) (a := 8) (b := a4) rfl rfl) ?_
 obtain ⟨j, f, hm⟩ := bnd hm
 refine dh 0 rfl rfl (fun w hS => Qsf (i := w64 (8 + a4)) (p := p0) Tryz.underlying23 (Qcd).siz rfl rfl f)<|dh 0 rfl rfl (fun w hS => Qw9 (off := 0) (p := p0) (i := w64 (8 + a4)) Qcd rfl (Bx.kp o hS) rfl f (by omega))<|dh 0 rfl rfl (fun w hS => Qru Qms rfl)<|dh 0 rfl rfl (fun w hS => Qsi (a := a6 <<< n9) (b := j.setWidth 64) rfl rfl)<|dh 0 rfl rfl (fun w hS => Qa0 Qk6 rfl)<|qz [(1, b3)] rfl (Qct (cs' := Qb5.cs (Qb5.mk ((a5 <<< n7) ||| (y8.setWidth 64)) a6)) (Qb7).siz rfl rfl rfl h rfl rfl) ⟨fun _ => tk0, nofun, trivial⟩ ?_
 rintro _ w6 ⟨x, M6⟩
 refine kM M6 ?_
 have y := ((Kp.refl ([b3]) w5).md M6)
 refine qh 0 rfl rfl y (fun w hS => Qa0 Qjk rfl)<|qz [(1, b3)] rfl (Qct (cs' := Qb5.cs (Qb5.mk ((a5 <<< n7) ||| (y8.setWidth 64)) ((a6 <<< n9) ||| (j.setWidth 64)))) (Qb7).siz rfl rfl rfl x rfl rfl) ⟨fun _ => tk0, nofun, trivial⟩ ?_
 rintro _ w7 ⟨z, M7⟩
 refine kM M7<|Qa9<|Qb1<|Qaz<|qg 2 rfl<|qv rfl (Qc6 (k := .i64) (a := a4) (b := 1) rfl rfl)<|qm rfl ?_
 refine Qa9 ?_
 have K_15 : Kz [(1, b3)] w3 w7 := (((K4.gr G5).md M6).md M7)
 subst g
 exact ⟨rfl, ⟨n1, w64 (a4 + 1), (a5 <<< n7) ||| (y8.setWidth 64), (a6 <<< n9) ||| (j.setWidth 64)⟩, sbq, ⟨hm, z, K_15⟩, Nat.lt_succ_self _⟩
theorem Qpa {p0 p1 p2 r} (hm : Ql6 p0 p1 p2 = some r) {w : World} :
    Calls Tryz.prog 100 [kv p0, wv p1, wv p2].toArray w fun e w' => ∃ v, e = .returned v ∧ (v = wv r ∧ Gr w w') := by
 unfold Ql6 at hm
 refine Qa5 16 Tryz.func100 rfl rfl rfl<|qs 2 rfl<|qe rfl (Qat (cs := kb p0) rfl rfl) ?_
 rintro _ w1 ⟨b1, rfl, g, a, G1⟩
 refine qm rfl<|Qa1<|Qa3<|qs 2 rfl<|qm rfl<|qv rfl (Qqt (c := p2) (d := 0#64) rfl rfl) ?_
 refine Qa1<|Qal rfl (fun c1 => ?_) (fun c1 => ?_)
 · replace hm := iT c1 hm
   refine qs 1 rfl<|qm rfl<|qb ?_
   have X3 := ((Gr.refl w).trans G1)
   cases hm
   refine ⟨_, _, rfl, Qay rfl (Qac rfl), ?_⟩
   exact ⟨rfl, X3⟩
 replace hm := iF c1 hm
 refine qu<|qs 8 rfl<|qv rfl (Qa6 Qai rfl a rfl)<|qm rfl<|qe rfl (eC Qnl rfl (Qei p0 (un8 3#8) (Qhb _) (Qhf _) p1 _)) ?_
 rintro _ w2 ⟨rfl, G2⟩
 obtain ⟨x1, b, hm⟩ := bnd hm
 refine qe rfl (eC Qwi rfl (Qsq b)) ?_
 rintro _ w3 ⟨rfl, G3⟩
 refine qv rfl (Xdn (v := wv x1.x) Xfh rfl rfl)<|qm rfl ?_
 obtain ⟨x2, f, hm⟩ := bnd hm
 refine qv rfl (Qkh (c := x1.x) (d := p2) rfl rfl f)<|qm rfl<|Qa1<|Qaf ?_
 have X6 := ((((Gr.refl w).trans G1).trans G2).trans G3)
 cases hm
 refine ⟨_, _, rfl, Qay rfl (Qac rfl), ?_⟩
 exact ⟨rfl, X6⟩
theorem Qho {p0 p1 r} (hm : Qnu p0 p1 = some r) {w : World} :
    Calls Tryz.prog 99 [kv p0, .agg (Qaj.cs p1).toArray].toArray w fun e w' => ∃ v, e = .returned v ∧ (∃ ur0_s zr0_s gr0_s, v = ur0_s ∧ Own w' zr0_s gr0_s 24 1 ur0_s (r.map uwc) ∧ Hdn (zr0_s = 0 ∨ w.heap.size ≤ gr0_s) ∧ Gr w w') := by
 unfold Qnu at hm
 refine Qa5 31 Tryz.func99 rfl rfl rfl<|qs 3 rfl<|qe rfl (Qat (cs := kb p0) rfl rfl) ?_
 rintro _ w1 ⟨b1, rfl, H, n, G1⟩
 have z1 := G1.size
 have N := n.lt
 refine qe rfl (Qat (cs := Qaj.cs p1) rfl rfl) ?_
 rintro _ w2 ⟨b2, rfl, I, o, G2⟩
 have O := o.lt
 refine qm rfl<|qd 4 rfl ?_
 have B5 := (n.gr G2)
 refine qv rfl (Qa6 Qai rfl B5 rfl)<|qe rfl (eC Qnl rfl (Qei p0 (un8 40#8) (Qhb _) (Qhf _) 0#64 _)) ?_
 rintro _ w3 ⟨rfl, G3⟩
 have z6 := G3.size
 refine qe rfl (Qaa (cs := kb k0) Qef rfl) ?_
 rintro _ w4 ⟨b4, rfl, J, p, G4⟩
 have P := p.lt
 refine qe rfl (Qah Qai rfl rfl rfl p rfl rfl) ?_
 rintro _ w5 ⟨u, M5⟩
 have z9 := M5.size
 refine qd 5 rfl<|qv rfl (Qa0 Qqr rfl) ?_
 have s := (((o.gr G3).gr G4).md M5)
 refine qv rfl (Qa2 (v := .int .i64 p1.Degree) Qb3 rfl s rfl)<|qv rfl (Qc6 (k := .i64) (a := p1.Degree) (b := 1) rfl rfl) ?_
 obtain ⟨l1, y, hm⟩ := bnd hm
 refine qe rfl (Xcq (c := uwc) (a := 0#64) Xi5 Xeh rfl ⟨rfl, rfl⟩ rfl y (by decide)) ?_
 rintro z w6 ⟨d, K, t, G6⟩
 have R := G6.size
 refine qm rfl<|Qa1<|Qa3<|qs 3 rfl<|qm rfl<|qv rfl (Qba (l := l1) (c := uwc) Tryz.underlying161 rfl (Own.rd t)) ?_
 refine qm rfl<|Qa1<|Qao ?_
 have B := (((((((Gr.refl w).trans G1).trans G2).trans G3).trans G4).md M5).trans G6)
 refine Qbk (α := Nat × List (BitVec 64) × Int × Value × Nat × Nat) ([6, 7] ++ rg 16 14) (fun ⟨n1, a5, a7, vy6, zy6, gy6⟩ => [(6, vy6), (16, .int .i64 a7)]) (fun ⟨n1, a5, a7, vy6, zy6, gy6⟩ wr => (Qcr (Qk3 p0 p1 l1) n1 (a5, a7) = some r) ∧ Own wr zy6 gy6 24 1 vy6 (a5.map uwc) ∧ Hdn (zy6 = 0 ∨ (gy6 = d ∧ 1 ≠ 0) ∨ w6.heap.size ≤ gy6) ∧ Kz [(1, d)] w6 wr) (fun ⟨n1, a5, a7, vy6, zy6, gy6⟩ => n1) ⟨Qdn, l1, 0, z, 1, d⟩ ?_ ?_ ?_
 · exact sbq
 · exact ⟨hm, t, ⟨tk0⟩, Kz.refl _ _⟩
 clear hm; rintro ⟨n1, a5, a7, vy6, zy6, gy6⟩ w7 ⟨hm, g, f, K7⟩
 have hb := Qbt hm; clear hm; obtain ⟨n1, rfl, hm⟩ := hb
 generalize h : Qcr (Qk3 p0 p1 l1) n1 = L at hm
 unfold Qk3 at hm
 try dsimp only at hm
 refine qs 1 rfl<|qv rfl (Qc9 (a := a7) (b := (l1.length : Int)) rfl rfl)<|Qa1<|Qa3<|cnF rfl (fun c1 => ?_) (fun c1 => ?_)
 · replace hm := iF c1 hm
   refine Qbq<|Qb6<|Qb6<|Qbo<|Qaz<|qs 2 rfl ?_
   refine qm rfl<|qm rfl<|Qa1<|Qaf ?_
   have C := (B.kz K7 (tk1 ((.inr tk0) : 1 = 0 ∨ w.heap.size ≤ d)))
   cases hm
   refine ⟨_, _, rfl, Qay rfl (Qac rfl), ?_⟩
   exact ⟨vy6, zy6, gy6, rfl, g, ⟨(Qbw (A := (fun x => w.heap.size ≤ x)) f (.inr tk0))⟩, C⟩
 replace hm := iT c1 hm
 refine qu<|Qa3<|Qao<|qs 2 rfl<|qm rfl ?_
 refine qm rfl<|Qa1<|qg 11 rfl<|qm rfl<|qm rfl ?_
 have D := ((u.gr G6).kz K7 (tk1 ((.inr tk0) : 1 = 0 ∨ d ≠ b4)))
 refine qv rfl (Qa6 Qai rfl D rfl)<|qm rfl<|qv rfl (Qer Qf5 rfl)<|qv rfl (Qa0 Qjd rfl)<|qv rfl (Qa0 Qlo rfl) ?_
 have E := ((s.gr G6).kz K7 (tk1 ((.inr tk0) : 1 = 0 ∨ d ≠ b2)))
 refine qv rfl (Qa2 (v := wv p1.Group.Q) Qb7 rfl E rfl) ?_
 obtain ⟨x8, F, hm⟩ := bnd hm
 refine qe rfl (eC Xgo rfl (Qpa F)) ?_
 rintro _ w8 ⟨rfl, G8⟩
 obtain ⟨y9, j, hm⟩ := bnd hm
 have m := (g.gr G8)
 refine qv rfl (Qex (i := a7) Tryz.underlying161 (Qb7).siz rfl (Own.rd m) rfl j) ?_
 have M := Own.z1 m j
 refine qe rfl (Xdg (i := a7) (q := 0) (a' := x8) (vs := [wv x8]) (c := uwc) (Qb7).siz rfl rfl rfl rfl rfl m j (by first | rfl | omega) rfl rfl ⟨rfl, rfl⟩) ?_
 rintro _ w9 ⟨G, M9⟩
 refine Qa9<|Qb1<|Qaz<|qg 2 rfl<|qv rfl (Qc6 (k := .i64) (a := a7) (b := 1) rfl rfl)<|qm rfl<|Qa9 ?_
 have K_22 : Kz [(1, d)] w6 w9 := ((K7.gr G8).md M9 (tk1 (Qbw (A := (fun x => (x = d ∧ 1 ≠ 0) ∨ w6.heap.size ≤ x)) f tk0)))
 subst h
 exact ⟨rfl, ⟨n1, a5.set a7.toNat x8, w64 (a7 + 1), vy6, zy6, gy6⟩, sbq, ⟨hm, G, ⟨(Qbw (A := (fun x => (x = d ∧ 1 ≠ 0) ∨ w6.heap.size ≤ x)) f tk0)⟩, K_22⟩, Nat.lt_succ_self _⟩
theorem Qog {p0 vp0 zp0 gp0 op0 r} (hm : Qi0 p0 = some r) {w : World} (a : Rd w zp0 gp0 op0 1 vp0 (p0.map uwc)) :
    Calls Tryz.prog 181 [vp0].toArray w fun e w' => ∃ v, e = .returned v ∧ (∃ bc0 uc0_s zc0_s gc0_s oc0_s, v = .func (.func 237) #[] [.pointer (some ⟨bc0, 0, none⟩)].toArray ∧ Bx w' bc0 161 ([uc0_s]) ∧ (w.heap.size ≤ bc0) ∧ Rd w' zc0_s gc0_s oc0_s 1 uc0_s (r.map uwc) ∧ Hdn (zc0_s = 0 ∨ (gc0_s = gp0 ∧ zp0 ≠ 0) ∨ w.heap.size ≤ gc0_s) ∧ Gr w w') := by
 unfold Qi0 at hm
 refine Qa5 4 Tryz.func181 rfl rfl rfl<|qs 2 rfl<|qe rfl (Qat (cs := [vp0]) rfl (Xg5 (Rd.oneB a))) ?_
 rintro _ w1 ⟨b1, rfl, c, b, G1⟩
 refine qm rfl<|qd 2 rfl<|qv rfl (Qdf rfl rfl)<|qm rfl<|Qa1 ?_
 refine Qaf ?_
 have B4 := (a.gr G1)
 have X5 := ((Gr.refl w).trans G1)
 cases hm
 refine ⟨_, _, rfl, Qay rfl (Qac rfl), ?_⟩
 exact ⟨b1, vp0, zp0, gp0, op0, rfl, b, by omega, B4, ⟨tk0⟩, X5⟩
theorem Qmu (p1 : List (BitVec 64)) (bp1 : Nat) (vp1_0 : Value) (zp1_0 gp1_0 op1_0 : Nat) (xs : List (Int × BitVec 64)) (hm : Qh0 p1 = some xs) (w0 : World) (hbp1 : Bx w0 bp1 161 ([vp1_0])) (m : Rd w0 zp1_0 gp1_0 op1_0 1 vp1_0 (p1.map uwc)) :
    IT Tryz.prog 237 [.pointer (some ⟨bp1, 0, none⟩)] (xs.map (fun (x : Int × BitVec 64) => ([.int .i64 x.1, wv x.2] : List Value))) (zf zp1_0 gp1_0 ++ [bp1]) w0 := by
 intro l J Jx w fp hG hJ hJx hcap h0 hY
 have c1 := Rd.gr m hG
 have E := c1.lth
 have y : zp1_0 = 0 ∨ gp1_0 ∉ fp := by by_cases hz : zp1_0 = 0; exact .inl hz; exact .inr (hcap _ (by simp [Qce, hz]))
 have c4 := Bx.gr hbp1 hG
 have F := c4.lt
 have z : bp1 ∉ fp := hcap _ (by simp)
 have hd := Xns xs
 unfold Qh0 at hm
 refine Qa5 19 Tryz.func237 rfl rfl rfl<|qs 4 rfl<|qv rfl (Qa2 (v := vp1_0) Qnt rfl c4 rfl)<|qv rfl (Qba (l := p1) (c := uwc) Tryz.underlying161 rfl c1)<|qv rfl (Qhm (k := .i64) (a := (p1.length : Int)) (b := 1) rfl rfl)<|qm rfl ?_
 refine Qa1<|Qao<|Qbk (α := Nat × Int × Nat × List Nat × List (Int × BitVec 64)) ([3] ++ rg 7 12) (fun ⟨n1, a2, kk, fpl, rl⟩ => [(3, .int .i64 a2)]) (fun ⟨n1, a2, kk, fpl, rl⟩ wr => (Qcr (Qdv p1) n1 a2 = some rl) ∧ Dr xs kk rl ∧ J kk fpl wr ∧ (∀ c ∈ fpl, c ∈ fp ∨ w.heap.size ≤ c) ∧ Kp fp w wr ∧ Rd wr zp1_0 gp1_0 op1_0 1 vp1_0 (p1.map uwc) ∧ Bx wr bp1 161 ([vp1_0]) ∧ (zp1_0 = 0 ∨ gp1_0 ∉ fpl) ∧ bp1 ∉ fpl ∧ True) (fun ⟨n1, a2, kk, fpl, rl⟩ => n1) ⟨Qdn, w64 ((p1.length : Int) - 1), 0, fp, xs⟩ ?_ ?_ ?_
 · exact sbq
 · exact ⟨hm, hd, h0, (fun c hc => Or.inl hc), (Kp.refl fp w), c1, c4, y, z, trivial⟩
 clear hm; rintro ⟨n1, a2, n, fpl1, rl1⟩ w1 ⟨hm, dl1, JLw1, sl1, KLw1, d, e, g, h, -⟩
 have z7 := KLw1.size
 have A := d.lth
 have G := e.lt
 have hb := Qbt hm; clear hm; obtain ⟨n1, rfl, hm⟩ := hb
 generalize p : Qcr (Qdv p1) n1 = D at hm
 unfold Qdv at hm
 try dsimp only at hm
 refine Qa3<|qs 2 rfl<|qm rfl<|qv rfl (Qdy (a := a2) (b := 0) rfl rfl)<|Qa1<|cnF rfl (fun c1 => ?_) (fun c1 => ?_)
 · replace hm := iF c1 hm
   refine Qbq<|Qb6<|Qb6<|Qbo ?_
   have he := Option.some.inj hm
   have hl := Dr.last (c := (fun (x : Int × BitVec 64) => ([.int .i64 x.1, wv x.2] : List Value))) dl1 he.symm
   refine ⟨_, _, rfl, Qgk rfl, KLw1, .inl ⟨_, sl1, ?_⟩⟩
   rw [← hl]; exact JLw1
 replace hm := iT c1 hm
 refine qu<|Qa3<|Qao<|qs 8 rfl<|qm rfl ?_
 refine qm rfl<|qv rfl (Qa2 (v := vp1_0) Qnt rfl e rfl)<|qm rfl ?_
 obtain ⟨y3, r, hm⟩ := bnd hm
 refine qv rfl (Qex (i := a2) Tryz.underlying161 (Qb7).siz rfl d rfl r)<|qv rfl (Qj8 (q := 0) (u := wv y3) Qb7 rfl d r (by first | rfl | omega) rfl) ?_
 obtain ⟨rr10, hm, he10⟩ := Qt8 hm
 have j := Dr.at dl1 he10
 have hd10 := Dr.next dl1 he10
 refine qe rfl (Qpm rfl rfl (hY _ _ _ _ (Xbh j) JLw1 KLw1 sl1)) ?_
 rintro _ w2 ⟨bb, rfl, KF10, f, hg10, hJb⟩
 have H := KF10.size
 have sub10 : ∀ c ∈ f, c ∈ fp ∨ w.heap.size ≤ c := Qka sl1 hg10 (by omega)
 have s := Qxv hg10 g (by have := A.o; omega)
 have t := Qbb hg10 h (by omega)
 cases bb
 · have Jy10 : Jx (n + 1) f w2 := hJb
   refine qv rfl (Qci rfl)<|Qa1<|Qi8 rfl<|Qaf<|Qbl<|Qb2<|Qb2 ?_
   refine Qbl ?_
   have KI14 : Kp fp w w2 := (KLw1.trans KF10 sl1)
   exact ⟨_, _, rfl, Qgk rfl, KI14, .inr ⟨_, _, sub10, (by rw [List.length_map]; exact (List.getElem?_eq_some_iff.1 j).1), Jy10⟩⟩
 have Jy10 : J (n + 1) f w2 := hJb
 refine qv rfl (Qci rfl)<|Qa1<|Qj9 rfl<|Qc5<|Qb1<|Qaz<|qg 3 rfl ?_
 refine qm rfl<|qv rfl (Qhm (k := .i64) (a := a2) (b := 1) rfl rfl)<|qm rfl<|Qa9 ?_
 have KI15 : Kp fp w w2 := (KLw1.trans KF10 sl1)
 have B := (Rd.kp d KF10 g)
 have C := (Bx.kp e KF10 h)
 subst p
 exact ⟨rfl, ⟨n1, w64 (a2 - 1), (n + 1), f, rr10⟩, sbq, ⟨hm, hd10, Jy10, sub10, KI15, B, C, s, t, trivial⟩, Nat.lt_succ_self _⟩
theorem Qgq {p0 p1 vp1 zp1 gp1 op1 r} (hm : Qfl p0 p1 = some r) {w : World} (g : Rd w zp1 gp1 op1 1 vp1 (p1.map uwc)) :
    Calls Tryz.prog 108 [wv p0, vp1].toArray w fun e w' => ∃ v, e = .returned v ∧ (v = wv r ∧ Gr w w') := by
 unfold Qfl at hm
 refine Qa5 21 Tryz.func108 rfl rfl rfl<|qs 1 rfl<|qm rfl<|qd 1 rfl ?_
 refine qm rfl<|Qa1<|Qa3<|qs 3 rfl<|qm rfl<|qv rfl (Qba (l := p1) (c := uwc) Tryz.underlying160 rfl g) ?_
 refine qm rfl<|Qa1<|Qao<|Qbk (α := Nat × BitVec 64 × Int) ([5, 7] ++ rg 10 10) (fun ⟨n1, a3, a4⟩ => [(5, wv a3), (10, .int .i64 a4)]) (fun ⟨n1, a3, a4⟩ wr => (Qcr (Qhv p0 p1) n1 (a3, a4) = some r) ∧ Kz [] w wr) (fun ⟨n1, a3, a4⟩ => n1) ⟨Qdn, 1#64, 0⟩ ?_ ?_ ?_
 · exact sbq
 · exact ⟨hm, Kz.refl _ _⟩
 clear hm; rintro ⟨n1, a3, a4⟩ w1 ⟨hm, K1⟩
 have hb := Qbt hm; clear hm; obtain ⟨n1, rfl, hm⟩ := hb
 generalize f : Qcr (Qhv p0 p1) n1 = m at hm
 unfold Qhv at hm
 try dsimp only at hm
 refine qs 1 rfl<|qv rfl (Qc9 (a := a4) (b := (p1.length : Int)) rfl rfl)<|Qa1<|Qa3<|cnF rfl (fun c1 => ?_) (fun c1 => ?_)
 · replace hm := iF c1 hm
   refine Qbq<|Qb6<|Qb6<|Qbo<|Qaz<|qs 2 rfl ?_
   refine qm rfl<|qm rfl<|Qa1<|Qaf ?_
   have X5 := ((Gr.refl w).kz K1)
   cases hm
   refine ⟨_, _, rfl, Qay rfl (Qac rfl), ?_⟩
   exact ⟨rfl, X5⟩
 replace hm := iT c1 hm
 refine qu<|Qa3<|Qao<|qs 3 rfl ?_
 obtain ⟨y5, h, hm⟩ := bnd hm
 have B3 := (g.kz K1)
 refine qv rfl (Qex (i := a4) Tryz.underlying160 (Qb7).siz rfl B3 rfl h)<|qv rfl (Qj8 (q := 0) (u := wv y5) Qb7 rfl B3 h (by first | rfl | omega) rfl)<|qm rfl<|Qa1<|qg 6 rfl<|qm rfl<|qm rfl ?_
 refine qv rfl (Qtb (a := a3) (b := y5) rfl rfl)<|qm rfl ?_
 obtain ⟨x6, j, hm⟩ := bnd hm
 refine qv rfl (Qkh (c := a3 * y5) (d := p0) rfl rfl j)<|qm rfl<|Qa9<|Qb1<|Qaz<|qg 2 rfl<|qv rfl (Qc6 (k := .i64) (a := a4) (b := 1) rfl rfl) ?_
 refine qm rfl<|Qa9 ?_
 have K_4 : Kz [] w w1 := K1
 subst f
 exact ⟨rfl, ⟨n1, x6, w64 (a4 + 1)⟩, sbq, ⟨hm, K_4⟩, Nat.lt_succ_self _⟩
theorem Qkr {p0 p1 p2 vp0 zp0 gp0 op0 r} (hm : Qh5 p0 p1 p2 = some r) {w : World} (A : Rd w zp0 gp0 op0 1 vp0 (p0.map uwc)) :
    Calls Tryz.prog 103 [vp0, wv p1, wv p2].toArray w fun e w' => ∃ v, e = .returned v ∧ (v = wv r ∧ Gr w w') := by
 have B := A.lth
 unfold Qh5 at hm
 refine Qa5 24 Tryz.func103 rfl rfl rfl<|qs 3 rfl<|qe rfl (Qat (cs := [wv p1]) rfl rfl) ?_
 rintro _ w1 ⟨b1, rfl, aj, C, G1⟩
 have ao := C.lt
 refine qe rfl (Qat (cs := [wv p2]) rfl rfl) ?_
 rintro _ w2 ⟨b2, rfl, ak, D, G2⟩
 have ap := D.lt
 refine qm rfl<|qd 2 rfl<|qe rfl (Qaa (cs := [wv 0#64]) Xeh rfl) ?_
 rintro _ w3 ⟨b3, rfl, al, F, G3⟩
 have aq := F.lt
 refine qe rfl (Qct (cs' := [wv 0#64]) (Qb7).siz rfl rfl rfl F rfl rfl) ?_
 rintro _ w4 ⟨S, M4⟩
 have z8 := M4.size
 refine Qa1<|Qa3<|qs 2 rfl<|qm rfl ?_
 have B9 := ((((A.gr G1).gr G2).gr G3).md M4 (Qan B))
 obtain ⟨x1, T, hm⟩ := bnd hm
 refine qe rfl (eC Xjs rfl (Qog T B9)) ?_
 rintro _ w5 ⟨G, t, u, y, z, rfl, g, H, f, i, G5⟩
 have I := f.lth
 have am := g.lt
 refine Qa1<|Qao ?_
 obtain ⟨l2, U, hm⟩ := bnd hm
 have V := ((((((Gr.refl w).trans G1).trans G2).trans G3).md M4).trans G5)
 have X := ((((C.gr G2).gr G3).md M4).gr G5)
 have Y := (((D.gr G3).md M4).gr G5)
 have Z := (S.gr G5)
 refine Qhg (gf := 237) rfl Xkg (Qmu x1 _ _ _ _ _ _ U _ g f) (by intro x hx; obtain ⟨a, _, rfl⟩ := List.mem_map.1 hx; rfl) rfl _ (fun _ _ _ _ => False) ([b3]) (Qtw (α := BitVec 64) (fun a4 rk => itL (Qfe p1 p2) Qf8 (List.drop rk l2) a4 = some r) (fun a4 => ([b3])) (fun a4 W => Bx W b3 24 ([wv a4]) ∧ True) (by rintro a4 W ⟨F0, _⟩ b hb; have q0 := F0.lt; replace hb : b ∈ ([b3]) := hb; simp only [List.mem_cons, List.mem_append, Qce, List.not_mem_nil, or_false, false_or, not_or, ne_eq, List.nil_append, List.cons_append, true_and, and_true, false_and, and_false, not_true_eq_false, not_false_eq_true, or_true, true_or] at hb; omega) (by rintro a4 W W' ⟨F0, _⟩ E hs; replace hs : ∀ b ∈ ([b3]), W'.heap[b]? = W.heap[b]? := hs; exact ⟨(hs _ (by simp)).trans F0, trivial⟩)) (fun _ => Qoi) (by intro b hb; have := (Qas (b := b3) i (Qan B)); have := I.o; simp only [List.mem_cons, List.mem_append, Qce, List.not_mem_nil, or_false, false_or, not_or, ne_eq, List.nil_append, List.cons_append, true_and, and_true, false_and, and_false, not_true_eq_false, not_false_eq_true, or_true, true_or] at hb ⊢; omega) ⟨0#64, hm, rfl, Z, trivial⟩ ?_ ?_ ?_
 · rintro l rk x fp w6 hl hx _ K6 hF hln hlt
   clear hm
   obtain ⟨⟨e5, e6⟩, hxe, rfl⟩ := map_some hx
   have J : Kz [(1, b3)] w5 w6 := Qky K6 (by intro k hk; simp only [Nin, and_true, List.mem_cons, List.mem_append, Qce, List.not_mem_nil, or_false, false_or, not_or, ne_eq, List.nil_append, List.cons_append, true_and, and_true, false_and, and_false, not_true_eq_false, not_false_eq_true, or_true, true_or] at hk ⊢; omega)
   refine qg 1 rfl<|qm rfl<|Qa9<|⟨rfl, (Gr.refl _), ?_⟩
   rintro w7 M7 ⟨a4, hm, rfl, p, -⟩
   replace hm := Qwj hm hxe
   generalize hnx1 : itL (Qfe p1 p2) Qf8 (List.drop (rk + 1) l2) = ar at hm
   unfold Qfe at hm
   try dsimp only at hm
   refine Qao<|dw [([b3]),([])] [(9, [1])] (.leaf [(0,10),(1,11),(2,10),(5,10),(7,10),(3,0),(4,0),(6,10),(8,10),(9,0)]) ?_
   intro w8 G8 au
   refine Qam ?_
   have K := (((X.kz J).md M7).gr G8)
   refine dh 0 rfl rfl (fun w hS => Qa2 (v := wv p1) Qnr rfl (Bx.kp K hS) rfl) ?_
   have L := (p.gr G8)
   refine dh 1 rfl rfl (fun w hS => Qa2 (v := wv a4) Qb7 rfl (Bx.kp L hS) rfl) ?_
   have aa := (((Y.kz J).md M7).gr G8)
   refine dh 0 rfl rfl (fun w hS => Qa2 (v := wv p2) Qb7 rfl (Bx.kp aa hS) rfl)<|dm 0 rfl rfl<|dh 0 rfl rfl (fun w hS => Qa2 (v := wv p1) Qnr rfl (Bx.kp K hS) rfl)<|qz [] rfl (Qcx [a4, p2] uwc Qou rfl rfl (Qh6 rfl) rfl rfl rfl) ⟨fun _ => tk0, fun _ => tk0, trivial⟩ ?_
   rintro av w9 ⟨aw, an, ab, G9⟩
   refine kG G9 ?_
   obtain ⟨x7, ac, hm⟩ := bnd hm
   refine qz [] rfl (eC Qws rfl (Qgq ac (Own.rd ab))) ⟨fun _ => tk0, fun _ => tk0, trivial⟩ ?_
   rintro _ ax ⟨rfl, m⟩
   refine kG m ?_
   have M := (((Kp.refl ([b3]) w8).gr G9).gr m)
   refine qh 0 rfl rfl M (fun w hS => Qrw (a := x7) (b := e6) rfl rfl) ?_
   obtain ⟨x8, ad, hm⟩ := bnd hm
   refine qh 0 rfl rfl M (fun w hS => Qkh (c := x7 + e6) (d := p1) rfl rfl ad) ?_
   have ae := ((L.gr G9).gr m)
   refine qz [(1, b3)] rfl (Qct (cs' := [wv x8]) (Qb7).siz rfl rfl rfl ae rfl rfl) ⟨fun _ => tk0, nofun, trivial⟩ ?_
   rintro _ N ⟨O, P⟩
   refine kM P<|Qa9<|Qb1 ?_
   have K_30 : Kz [(1, b3)] w7 N := ((((Kz.gr (Kz.refl _ _) G8).gr G9).gr m).md P)
   have Kq30 : Kp ([b3]) w7 N := Qri K_30 (by intro k hk; simp only [Nin, and_true, List.mem_cons, List.mem_append, Qce, List.not_mem_nil, or_false, false_or, not_or, ne_eq, List.nil_append, List.cons_append, true_and, and_true, false_and, and_false, not_true_eq_false, not_false_eq_true, or_true, true_or] at hk ⊢; omega)
   subst hnx1
   exact ⟨Kq30, ([b3]), (by intro c hc; simp only [List.mem_cons, List.mem_append, Qce, List.not_mem_nil, or_false, false_or, not_or, ne_eq, List.nil_append, List.cons_append, true_and, and_true, false_and, and_false, not_true_eq_false, not_false_eq_true, or_true, true_or] at hc ⊢; omega), ⟨x8, hm, rfl, O, trivial⟩⟩
 · clear hm; rintro j fp q af s Q ⟨a4, hm, rfl, n, -⟩ ag
   replace hm := Qu0 hm
   have R : Kz [(1, b3)] w5 q := Qky ag (by intro k hk; simp only [Nin, and_true, List.mem_cons, List.mem_append, Qce, List.not_mem_nil, or_false, false_or, not_or, ne_eq, List.nil_append, List.cons_append, true_and, and_true, false_and, and_false, not_true_eq_false, not_false_eq_true, or_true, true_or] at hk ⊢; omega)
   simp only [List.mem_cons, List.mem_append, Qce, List.not_mem_nil, or_false, false_or, not_or, ne_eq, List.nil_append, List.cons_append, true_and, and_true, false_and, and_false, not_true_eq_false, not_false_eq_true, or_true, true_or, not_and] at Q
   unfold Qf8 at hm
   try dsimp only at hm
   refine Qb1<|Qaz<|qs 2 rfl<|qv rfl (Qa2 (v := wv a4) Qb7 rfl n rfl)<|qm rfl<|Qa1 ?_
   refine Qaf ?_
   have DL34 := s
   have ah := Md.put (w := q) j (.deferred none)
   have ai : Gr w (q.putObj j (.deferred none)) := ((V.kz R).md ah)
   cases hm
   refine ⟨_, _, ⟨j, rfl, DL34, rfl⟩, Qay rfl (Qac rfl), ?_⟩
   exact ⟨rfl, ai⟩
 rintro _ _ _ _ _ _ _ _ _ h _
 exact h.elim
theorem Qvd {p0 p1 p2 r} (hm : Qqd p0 p1 p2 = some r) {w : World} :
    Calls Tryz.prog 140 [kv p0, .agg (Qaj.cs p1).toArray, .int .i64 p2].toArray w fun e w' => ∃ v, e = .returned v ∧ (∃ ur0_1 zr0_1 gr0_1, v = .tuple [.agg (Qap.cs r.1 ur0_1).toArray, .int .i64 r.2].toArray ∧ Own w' zr0_1 gr0_1 92 18 ur0_1 (r.1.Labels.map Qbv.cs) ∧ Hdn (zr0_1 = 0 ∨ w.heap.size ≤ gr0_1) ∧ Gr w w') := by
 unfold Qqd at hm
 refine Qa5 38 Tryz.func140 rfl rfl rfl<|qs 4 rfl<|qe rfl (Qat (cs := kb p0) rfl rfl) ?_
 rintro _ w1 ⟨b1, rfl, H, i, G1⟩
 have K := i.lt
 refine qe rfl (Qat (cs := Qaj.cs p1) rfl rfl) ?_
 rintro _ w2 ⟨b2, rfl, I, j, G2⟩
 have L := j.lt
 refine qe rfl (Qaa (cs := Qap.cs (Qap.mk 0 [] (Qag.mk 0#64 0#64)) (.slice none 0 0)) Xat rfl) ?_
 rintro _ w3 ⟨b3, rfl, J, f, G3⟩
 refine qm rfl<|Qa1<|Qa3<|qs 3 rfl ?_
 have B7 := (j.gr G3)
 refine qv rfl (Qa6 Qcq rfl B7 rfl) ?_
 obtain ⟨x1, s, hm⟩ := bnd hm
 refine qe rfl (eC Xeb rfl (Qm3 s)) ?_
 rintro _ w4 ⟨rfl, G4⟩
 refine qv rfl (Qci rfl)<|Qa1<|Qal rfl (fun c1 => ?_) (fun c1 => ?_)
 · replace hm := Qc0 c1 hm
   refine qs 3 rfl<|qv rfl (Qau (cs := Qap.cs (Qap.mk 0 [] (Qag.mk 0#64 0#64)) (.slice none 0 0)) Qu7 rfl rfl) ?_
   have B9 := (f.gr G4)
   refine qe rfl (Qah Qeq rfl rfl (Qap.cs_ones _ _ rfl) B9 rfl rfl) ?_
   rintro _ w5 ⟨t, M5⟩
   refine qm rfl<|qb ?_
   have Y1 := Gr.trans (Gr.trans (Gr.trans G1 G2) G3) G4
   have u := (((Gr.refl w).trans Y1).md M5)
   cases hm
   refine ⟨_, _, rfl, Qbm rfl (Qaq Qeq rfl t rfl) (Qac rfl), ?_⟩
   exact ⟨(.slice none 0 0), 0, 0, rfl, (Qaw _ 0 92 18), ⟨.inl rfl⟩, u⟩
 replace hm := Qc1 c1 hm
 refine qu<|Qa3 ?_
 have Y2 := Gr.trans (Gr.trans (Gr.trans G1 G2) G3) G4
 have k := ((Gr.refl w).trans Y2)
 refine qj (β := Bool) (rg 13 9) (fun a2 => [(21, .bool a2)]) (fun a2 wr => (Qk2 p0 p1 p2 a2 = some r) ∧ Kz [] w4 wr) ?_ ?_
 · refine qg 9 rfl<|qm rfl<|qv rfl (Qc9 (a := p2) (b := 0) rfl rfl)<|qp rfl (Qad rfl) (fun c3 => ?_) (fun c3 => ?_)
   · replace hm := iT c3 hm
     refine qk rfl<|qk rfl<|qk rfl<|qk rfl<|qk rfl<|qm rfl<|Qa9 ?_
     exact ⟨rfl, true, sbq, hm, kz0⟩
   replace hm := iF c3 hm
   refine qm rfl<|qv rfl (Qa0 Qlq rfl) ?_
   have x := (B7.gr G4)
   refine qv rfl (Qa2 (v := .int .i64 p1.Depth) Qb3 rfl x rfl) ?_
   obtain ⟨n5, hn5, hm⟩ := bnd hm
   refine qv rfl (Qrz (a := 1) (b := p1.Depth) rfl rfl hn5)<|qv rfl (Qdy (a := p2) (b := Qvz 1 n5) rfl rfl)<|qm rfl<|Qa9 ?_
   exact ⟨rfl, (decide (Qvz 1 n5 ≤ p2)), sbq, hm, kz0⟩
 clear hm; rintro a2 w6 ⟨hm, K6⟩
 unfold Qk2 at hm
 refine Qal rfl (fun c2 => ?_) (fun c2 => ?_)
 · replace hm := Qc0 c2 hm
   refine qs 3 rfl<|qv rfl (Qau (cs := Qap.cs (Qap.mk 0 [] (Qag.mk 0#64 0#64)) (.slice none 0 0)) Qu7 rfl rfl) ?_
   have y := ((f.gr G4).kz K6)
   refine qe rfl (Qah Qeq rfl rfl (Qap.cs_ones _ _ rfl) y rfl rfl) ?_
   rintro _ w7 ⟨z, M7⟩
   refine qm rfl<|qb ?_
   have A := ((k.kz K6).md M7)
   cases hm
   refine ⟨_, _, rfl, Qbm rfl (Qaq Qeq rfl z rfl) (Qac rfl), ?_⟩
   exact ⟨(.slice none 0 0), 0, 0, rfl, (Qaw _ 0 92 18), ⟨.inl rfl⟩, A⟩
 replace hm := Qc1 c2 hm
 refine qu<|qs 4 rfl<|qm rfl<|qv rfl (Qer Qf5 rfl)<|qv rfl (Qrw (a := wd p2) (b := 1#64) rfl rfl) ?_
 refine qm rfl<|Qa1<|Qa3<|dw [([b3])] [] (.leaf [(0,10),(1,10),(2,10),(3,10),(5,10),(6,10),(7,10),(8,10),(4,0),(9,0),(10,10),(11,10),(12,0),(13,10)]) ?_
 intro w8 G8 M
 refine Qam<|dm 0 rfl rfl<|dm 0 rfl rfl ?_
 have Y3 := Gr.trans (Gr.trans G2 G3) G4
 have B := (((i.gr Y3).kz K6).gr G8)
 refine dh 0 rfl rfl (fun w hS => Qa6 Qai rfl (Bx.kp B hS) rfl) ?_
 have l := (((B7.gr G4).kz K6).gr G8)
 refine dh 0 rfl rfl (fun w hS => Qa6 Qcq rfl (Bx.kp l hS) rfl)<|dh 0 rfl rfl (fun w hS => Qa0 Qjd rfl)<|dh 0 rfl rfl (fun w hS => Qa0 Qlo rfl)<|dh 0 rfl rfl (fun w hS => Qa2 (v := wv p1.Group.Q) Qb7 rfl (Bx.kp l hS) rfl)<|dm 0 rfl rfl ?_
 obtain ⟨x3, C, hm⟩ := bnd hm
 refine qz [] rfl (eC Xah rfl (Qho C)) ⟨fun _ => tk0, trivial⟩ ?_
 rintro m w9 ⟨_, n, o, rfl, c, p, G9⟩
 refine kG G9 ?_
 obtain ⟨x4, D, hm⟩ := bnd hm
 refine qz [] rfl (eC Xgq rfl (Qkr D (Own.rd c))) ⟨fun _ => tk0, trivial⟩ ?_
 rintro _ N ⟨rfl, d⟩
 refine kG d ?_
 have g := (((Kp.refl ([b3]) w8).gr G9).gr d)
 refine qh 0 rfl rfl g (fun w hS => Qau (cs := Qag.cs (Qag.mk ((wd p2) + 1#64) x4)) Xam rfl rfl)<|qh 0 rfl rfl g (fun w hS => Qau (cs := Qap.cs (Qap.mk p2 [] (Qag.mk ((wd p2) + 1#64) x4)) (.slice none 0 0)) Qu7 rfl (Qi4 rfl rfl rfl (Qi4 rfl rfl rfl rfl))) ?_
 have E := (((((f.gr G4).kz K6).gr G8).gr G9).gr d)
 refine qz [(1, b3)] rfl (Qah Qeq rfl rfl (Qap.cs_ones _ _ rfl) E rfl rfl) ⟨fun _ => tk0, trivial⟩ ?_
 rintro _ O ⟨q, h⟩
 refine kM h ?_
 have F := (g.md h)
 refine dn 0 rfl rfl F<|Qa1<|Qaf ?_
 have G := (((((k.kz K6).trans G8).trans G9).trans d).md h)
 cases hm
 refine ⟨_, _, rfl, Qbm rfl (Qaq Qeq rfl q rfl) (Qac rfl), ?_⟩
 exact ⟨(.slice none 0 0), 0, 0, rfl, (Qaw _ 0 92 18), ⟨.inl rfl⟩, G⟩
theorem Qs2 {p0 p1 bp1 r} (hm : Qlk p0 p1 = some r) {w : World} (hbp1 : Bx w bp1 31 (Qag.cs p1)) :
    Calls Tryz.prog 184 [.agg (Qag.cs p0).toArray, .pointer (some ⟨bp1, 0, none⟩)].toArray w fun e w' => ∃ v, e = .returned v ∧ (v = .bool r ∧ Gr w w') := by
 unfold Qlk at hm
 refine Qa5 9 Tryz.func184 rfl rfl rfl<|qs 2 rfl<|qe rfl (Qat (cs := Qag.cs p0) rfl rfl) ?_
 rintro _ w1 ⟨b1, rfl, b, a, G1⟩
 refine qm rfl<|qd 6 rfl<|qv rfl (Qa0 Qn6 rfl)<|qv rfl (Qa2 (v := wv p0.X) Qb7 rfl a rfl)<|qv rfl (Qa0 Qn6 rfl) ?_
 have B4 := (hbp1.gr G1)
 refine qv rfl (Qa2 (v := wv p1.X) Qb7 rfl B4 rfl)<|qv rfl (Qqt (c := p0.X) (d := p1.X) rfl rfl)<|qm rfl<|Qa1<|Qaf ?_
 have X5 := ((Gr.refl w).trans G1)
 cases hm
 refine ⟨_, _, rfl, Qay rfl (Qac rfl), ?_⟩
 exact ⟨rfl, X5⟩
theorem Qhd {p0 d vp0 zp0 gp0 op0 bp1_0 r} (hm : Qd3 p0 d = some r) {w : World} (g : Rd w zp0 gp0 op0 2 vp0 (p0.map Qag.cs)) (hbp1_0 : Bx w bp1_0 31 (Qag.cs d)) :
    Calls Tryz.prog 238 [vp0, .func (.func 184) [].toArray [.pointer (some ⟨bp1_0, 0, none⟩)].toArray].toArray w fun e w' => ∃ v, e = .returned v ∧ (v = .int .i64 r ∧ Gr w w') := by
 unfold Qd3 at hm
 refine Qa5 19 Tryz.func238 rfl rfl rfl<|qs 1 rfl<|qm rfl<|Qa1<|Qa3<|Qa3 ?_
 refine qg 3 rfl<|qm rfl<|qv rfl (Qba (l := p0) (c := Qag.cs) Tryz.underlying46 rfl g)<|qm rfl<|Qa1<|Qao<|Qbk (α := Nat × Int) ([4, 5] ++ rg 8 11) (fun ⟨n1, a2⟩ => [(4, .int .i64 0), (8, .int .i64 a2)]) (fun ⟨n1, a2⟩ wr => (Qcr (Qcb p0 d) n1 a2 = some r) ∧ Kz [] w wr) (fun ⟨n1, a2⟩ => n1) ⟨Qdn, 0⟩ ?_ ?_ ?_
 · exact sbq
 · exact ⟨hm, Kz.refl _ _⟩
 clear hm; rintro ⟨n1, a2⟩ w1 ⟨hm, K1⟩
 have hb := Qbt hm; clear hm; obtain ⟨n1, rfl, hm⟩ := hb
 generalize f : Qcr (Qcb p0 d) n1 = m at hm
 unfold Qcb at hm
 try dsimp only at hm
 refine qs 1 rfl<|qv rfl (Qc9 (a := a2) (b := (p0.length : Int)) rfl rfl)<|Qa1<|Qa3<|cnF rfl (fun c1 => ?_) (fun c1 => ?_)
 · replace hm := iF c1 hm
   refine Qbq<|Qb6<|Qb6<|Qbo<|Qaz<|qs 1 rfl ?_
   refine qm rfl<|Qa1<|Qaf ?_
   have X9 := ((Gr.refl w).kz K1)
   cases hm
   refine ⟨_, _, rfl, Qay rfl (Qac rfl), ?_⟩
   exact ⟨rfl, X9⟩
 replace hm := iT c1 hm
 refine qu<|Qa3<|Qao<|qs 2 rfl<|qm rfl ?_
 refine qm rfl<|qd 6 rfl<|qm rfl<|qm rfl<|qm rfl ?_
 obtain ⟨y3, h, hm⟩ := bnd hm
 have B4 := (g.kz K1)
 refine qv rfl (Qex (i := a2) Tryz.underlying46 (Qfg).siz rfl B4 rfl h)<|qv rfl (Qgy Qfg rfl B4 h (by first | rfl | omega)) ?_
 have B5 := (hbp1_0.kz K1)
 obtain ⟨x4, j, hm⟩ := bnd hm
 refine qe rfl (Qcn Xlu rfl rfl (Qs2 j B5)) ?_
 rintro _ w2 ⟨rfl, G2⟩
 refine Qa1<|Qal rfl (fun c2 => ?_) (fun c2 => ?_)
 · replace hm := Qc0 c2 hm
   refine qs 2 rfl<|qm rfl<|qm rfl<|Qa1<|Qaf<|Qbl ?_
   refine Qb2<|Qb2<|Qbl<|Qb2 ?_
   have X7 := (((Gr.refl w).kz K1).trans G2)
   cases hm
   refine ⟨_, _, rfl, Qay rfl (Qac rfl), ?_⟩
   exact ⟨rfl, X7⟩
 replace hm := Qc1 c2 hm
 refine Qc5<|Qb1<|Qaz<|qg 2 rfl<|qv rfl (Qc6 (k := .i64) (a := a2) (b := 1) rfl rfl)<|qm rfl<|Qa9 ?_
 have K_8 : Kz [] w w2 := (K1.gr G2)
 subst f
 exact ⟨rfl, ⟨n1, w64 (a2 + 1)⟩, sbq, ⟨hm, K_8⟩, Nat.lt_succ_self _⟩
theorem Qgl {p0 c vp0 zp0 gp0 op0 bp1_0 r} (hm : Qcy p0 c = some r) {w : World} (d : Rd w zp0 gp0 op0 2 vp0 (p0.map Qag.cs)) (hbp1_0 : Bx w bp1_0 31 (Qag.cs c)) :
    Calls Tryz.prog 183 [vp0, .func (.func 184) [].toArray [.pointer (some ⟨bp1_0, 0, none⟩)].toArray].toArray w fun e w' => ∃ v, e = .returned v ∧ (v = .bool r ∧ Gr w w') := by
 unfold Qcy at hm
 refine Qa5 9 Tryz.func183 rfl rfl rfl<|qs 1 rfl<|qm rfl<|qd 5 rfl ?_
 refine qm rfl<|qm rfl ?_
 obtain ⟨x1, f, hm⟩ := bnd hm
 refine qe rfl (eC Xkm rfl (Qhd f d hbp1_0)) ?_
 rintro _ w1 ⟨rfl, G1⟩
 refine qv rfl (Qdy (a := x1) (b := 0) rfl rfl)<|qm rfl<|Qa1<|Qaf ?_
 have X4 := ((Gr.refl w).trans G1)
 cases hm
 refine ⟨_, _, rfl, Qay rfl (Qac rfl), ?_⟩
 exact ⟨rfl, X4⟩
theorem Qoo {p0 vp0 zp0 gp0 op0 r} (hm : Qla p0 = some r) {w : World} (d : Rd w zp0 gp0 op0 2 vp0 (p0.map Qag.cs)) :
    Calls Tryz.prog 107 [vp0].toArray w fun e w' => ∃ v, e = .returned v ∧ (v = .bool r ∧ Gr w w') := by
 have h := d.lth
 unfold Qla at hm
 refine Qa5 18 Tryz.func107 rfl rfl rfl<|qs 1 rfl<|qm rfl<|Qa1<|Qa3<|Qa3 ?_
 refine qg 3 rfl<|qm rfl<|qv rfl (Qba (l := p0) (c := Qag.cs) Tryz.underlying46 rfl d)<|qm rfl<|Qa1<|Qao<|Qbk (α := Nat × Int) ([2, 3, 4] ++ rg 7 11) (fun ⟨n1, a2⟩ => [(2, .bool false), (7, .int .i64 a2)]) (fun ⟨n1, a2⟩ wr => (Qcr (Qie p0) n1 a2 = some r) ∧ Kz [] w wr) (fun ⟨n1, a2⟩ => n1) ⟨Qdn, 0⟩ ?_ ?_ ?_
 · exact sbq
 · exact ⟨hm, Kz.refl _ _⟩
 clear hm; rintro ⟨n1, a2⟩ w1 ⟨hm, K1⟩
 have z2 := K1.size
 have hb := Qbt hm; clear hm; obtain ⟨n1, rfl, hm⟩ := hb
 generalize f : Qcr (Qie p0) n1 = s at hm
 unfold Qie at hm
 try dsimp only at hm
 refine qs 1 rfl<|qv rfl (Qc9 (a := a2) (b := (p0.length : Int)) rfl rfl)<|Qa1<|Qa3<|cnF rfl (fun c1 => ?_) (fun c1 => ?_)
 · replace hm := iF c1 hm
   refine Qbq<|Qb6<|Qb6<|Qbo<|Qaz<|qs 1 rfl ?_
   refine qm rfl<|Qa1<|Qaf ?_
   have j := ((Gr.refl w).kz K1)
   cases hm
   refine ⟨_, _, rfl, Qay rfl (Qac rfl), ?_⟩
   exact ⟨rfl, j⟩
 replace hm := iT c1 hm
 refine qu<|Qa3<|Qao<|qs 6 rfl<|qm rfl ?_
 obtain ⟨y3, g, hm⟩ := bnd hm
 have B3 := (d.kz K1)
 refine qv rfl (Qex (i := a2) Tryz.underlying46 (Qfg).siz rfl B3 rfl g)<|qv rfl (Qgy Qfg rfl B3 g (by first | rfl | omega))<|qe rfl (Qaa (cs := Qag.cs (Qag.mk 0#64 0#64)) Qw5 rfl) ?_
 rintro _ w2 ⟨b2, rfl, t, m, G2⟩
 refine qm rfl<|qe rfl (Qah Qfg rfl rfl rfl m rfl rfl) ?_
 rintro _ w3 ⟨n, M3⟩
 refine qd 5 rfl<|qm rfl<|qm rfl ?_
 obtain ⟨l4, o, hm⟩ := bnd hm
 have B7 := ((B3.gr G2).md M3 (Qan h))
 refine qt rfl (Qsw (P := Tryz.prog) (lo := 0) (hi := a2) (l := p0) (c := Qag.cs) Tryz.underlying46 (Qfg).siz rfl B7 rfl ⟨_, rfl⟩ o) ?_
 rintro v8 o8 R8
 refine qv rfl (Qdf rfl rfl) ?_
 obtain ⟨x5, p, hm⟩ := bnd hm
 refine qe rfl (eC Xjk rfl (Qgl p R8 n)) ?_
 rintro _ w4 ⟨rfl, G4⟩
 refine Qa1<|Qal rfl (fun c2 => ?_) (fun c2 => ?_)
 · replace hm := Qc0 c2 hm
   refine qs 1 rfl<|qm rfl<|Qa1<|Qaf<|Qbl<|Qb2 ?_
   refine Qb2<|Qbl<|Qb2 ?_
   have q := (((((Gr.refl w).kz K1).trans G2).md M3).trans G4)
   cases hm
   refine ⟨_, _, rfl, Qay rfl (Qac rfl), ?_⟩
   exact ⟨rfl, q⟩
 replace hm := Qc1 c2 hm
 refine Qc5<|Qb1<|Qaz<|qg 2 rfl<|qv rfl (Qc6 (k := .i64) (a := a2) (b := 1) rfl rfl)<|qm rfl<|Qa9 ?_
 have K_12 : Kz [] w w4 := (((K1.gr G2).md M3).gr G4)
 subst f
 exact ⟨rfl, ⟨n1, w64 (a2 + 1)⟩, sbq, ⟨hm, K_12⟩, Nat.lt_succ_self _⟩
theorem Qly {p0 vp0 zp0 gp0 op0 r} (hm : Qjt p0 = some r) {w : World} (b : Rd w zp0 gp0 op0 2 vp0 (p0.map Qag.cs)) :
    Calls Tryz.prog 182 [vp0].toArray w fun e w' => ∃ v, e = .returned v ∧ (∃ ur0_s zr0_s gr0_s, v = ur0_s ∧ Own w' zr0_s gr0_s 31 2 ur0_s (r.map Qag.cs) ∧ Hdn (zr0_s = 0 ∨ w.heap.size ≤ gr0_s) ∧ Gr w w') := by
 unfold Qjt at hm
 refine Qa5 8 Tryz.func182 rfl rfl rfl<|qs 1 rfl<|qm rfl<|Qa1<|Qa3<|Qa3 ?_
 refine qg 2 rfl<|qm rfl ?_
 rcases Qvo b with ⟨d, a, f⟩ | ⟨t, u, d, a⟩
 · replace hm : (some []) = some r := by rw [f] at hm; exact hm
   refine qv rfl (Qnc Tryz.underlying46 rfl a)<|Qa1<|Qi8 rfl<|qs 1 rfl<|qm rfl<|Qa1 ?_
   refine Qaf<|Qb2 ?_
   cases hm
   refine ⟨_, _, rfl, Qay rfl (Qac rfl), ?_⟩
   exact ⟨(.slice none 0 0), 0, 0, rfl, (Qaw _ 0 31 2), ⟨.inl rfl⟩, (Gr.refl w)⟩
 skip
 refine qv rfl (Qnc Tryz.underlying46 rfl a)<|Qa1<|Qj9 rfl<|qu<|qs 4 rfl ?_
 refine qe rfl (Qcx ([] : List Qag) Qag.cs Xfe rfl rfl (Qh6 rfl) rfl rfl rfl) ?_
 rintro y w1 ⟨g, s, h, G1⟩
 have z3 := G1.size
 refine qm rfl ?_
 have B5 := (b.gr G1)
 obtain ⟨l1, i, hm⟩ := bnd hm
 refine qe rfl (Qfn (l := ([] : List Qag)) (m := p0) (c := Qag.cs) Qsc rfl rfl h B5 i (by decide)) ?_
 rintro j w2 ⟨k, n, o, p, z, q⟩
 refine qm rfl<|Qa1<|Qaf ?_
 have X7 := (((Gr.refl w).trans G1).ka p (tk1 ((.inr tk0) : 1 = 0 ∨ w.heap.size ≤ g)))
 cases hm
 refine ⟨_, _, rfl, Qay rfl (Qac rfl), ?_⟩
 exact ⟨j, k, n, rfl, o, ⟨(Qg4 (A := (fun x => w.heap.size ≤ x)) q (.inr tk0))⟩, X7⟩
theorem Qyn {p0 p1 p2 vp1_1 zp1_1 gp1_1 op1_1 vp2_0 zp2_0 gp2_0 op2_0 vp2_2 zp2_2 gp2_2 op2_2 r} (hm : Qta p0 p1 p2 = some r) {w : World} (av : Rd w zp1_1 gp1_1 op1_1 18 vp1_1 (p1.Labels.map Qbv.cs)) (L : Rd w zp2_0 gp2_0 op2_0 18 vp2_0 (p2.Items.map Qbd.cs)) (n : Rd w zp2_2 gp2_2 op2_2 2 vp2_2 (p2.Points.map Qag.cs)) :
    Calls Tryz.prog 106 [.agg (Qaj.cs p0).toArray, .agg (Qap.cs p1 vp1_1).toArray, .agg (Qa8.cs p2 vp2_0 vp2_2).toArray].toArray w fun e w' => ∃ v, e = .returned v ∧ (v = .bool r ∧ Gr w w') := by
 unfold Qta at hm
 refine Qa5 91 Tryz.func106 rfl rfl rfl<|qs 4 rfl<|qe rfl (Qat (cs := Qaj.cs p0) rfl rfl) ?_
 rintro _ w1 ⟨b1, rfl, aQ, B, G1⟩
 have a6 := B.lt
 refine qe rfl (Qat (cs := Qap.cs p1 vp1_1) rfl rfl) ?_
 rintro _ w2 ⟨b2, rfl, aR, M, G2⟩
 have a7 := M.lt
 refine qe rfl (Qat (cs := Qa8.cs p2 vp2_0 vp2_2) rfl rfl) ?_
 rintro _ w3 ⟨b3, rfl, aS, o, G3⟩
 have ba := o.lt
 refine qm rfl<|Qa1<|Xez ?_
 have Y1 := Gr.trans (Gr.trans G1 G2) G3
 have aw := ((Gr.refl w).trans Y1)
 refine qj (β := Bool) ([7] ++ rg 10 30) (fun a1 => [(7, .bool a1)]) (fun a1 wr => (Qh9 p0 p1 p2 a1 = some r) ∧ Kz [] w3 wr) ?_ ?_
 · refine qg 31 rfl<|qv rfl (Qa0 Qfw rfl)<|qv rfl (Qa2 (v := vp2_0) Qi5 rfl o rfl) ?_
   have ax := (L.gr Y1)
   refine qv rfl (Qba (l := p2.Items) (c := Qbd.cs) Tryz.underlying45 rfl ax)<|qv rfl (Qdj (a := (p2.Items.length : Int)) (b := 0) rfl rfl)<|qpF rfl (Qad rfl) (fun c7 => ?_) (fun c7 => ?_)
   · replace hm := iF c7 hm
     refine qk rfl<|qk rfl<|qk rfl<|qm rfl<|qm rfl<|qk rfl<|qk rfl ?_
     refine qk rfl<|qk rfl<|qk rfl<|qk rfl<|qm rfl<|qm rfl<|qk rfl ?_
     refine qk rfl<|qk rfl<|qk rfl<|qk rfl<|qk rfl<|qm rfl<|qm rfl ?_
     refine qk rfl<|qk rfl<|qk rfl<|qm rfl<|qm rfl<|Qa9 ?_
     exact ⟨rfl, false, sbq, hm, kz0⟩
   replace hm := iT c7 hm
   refine qv rfl (Qa0 Qlz rfl)<|qv rfl (Qa2 (v := wv p2.Base) Qb7 rfl o rfl)<|qv rfl (Qty (c := p2.Base) (d := 1#64) rfl rfl)<|qm rfl<|qpF rfl (Qad rfl) (fun c8 => ?_) (fun c8 => ?_)
   · replace hm := iF c8 hm
     refine qk rfl<|qk rfl<|qk rfl<|qk rfl<|qk rfl<|qk rfl<|qm rfl ?_
     refine qm rfl<|qk rfl<|qk rfl<|qk rfl<|qk rfl<|qk rfl<|qk rfl ?_
     refine qm rfl<|qm rfl<|qk rfl<|qk rfl<|qk rfl<|qm rfl<|qm rfl ?_
     refine Qa9 ?_
     exact ⟨rfl, false, sbq, hm, kz0⟩
   replace hm := iT c8 hm
   refine qv rfl (Qa0 Qlz rfl)<|qv rfl (Qa2 (v := wv p2.Base) Qb7 rfl o rfl)<|qv rfl (Qa0 Qjd rfl)<|qv rfl (Qa0 Qpf rfl) ?_
   have Y2 := Gr.trans G2 G3
   have W := (B.gr Y2)
   refine qv rfl (Qa2 (v := wv p0.Group.P) Qb7 rfl W rfl)<|qv rfl (Qqs (c := p2.Base) (d := p0.Group.P) rfl rfl)<|qm rfl<|qpF rfl (Qad rfl) (fun c9 => ?_) (fun c9 => ?_)
   · replace hm := iF c9 hm
     refine qk rfl<|qk rfl<|qk rfl<|qk rfl<|qk rfl<|qk rfl<|qm rfl ?_
     refine qm rfl<|qk rfl<|qk rfl<|qk rfl<|qm rfl<|qm rfl<|Qa9 ?_
     exact ⟨rfl, false, sbq, hm, kz0⟩
   replace hm := iT c9 hm
   refine qv rfl (Qa0 Qee rfl)<|qv rfl (Qa2 (v := vp2_2) Qg3 rfl o rfl) ?_
   have Z := (n.gr Y1)
   refine qv rfl (Qba (l := p2.Points) (c := Qag.cs) Tryz.underlying46 rfl Z)<|qv rfl (Qa0 Qqr rfl)<|qv rfl (Qa2 (v := .int .i64 p0.Degree) Qb3 rfl W rfl)<|qv rfl (Qdj (a := (p2.Points.length : Int)) (b := p0.Degree) rfl rfl)<|qm rfl<|qpF rfl (Qad rfl) (fun N => ?_) (fun N => ?_)
   · replace hm := iF N hm
     refine qk rfl<|qk rfl<|qk rfl<|qm rfl<|qm rfl<|Qa9 ?_
     exact ⟨rfl, false, sbq, hm, kz0⟩
   replace hm := iT N hm
   refine qv rfl (Qa0 Qee rfl)<|qv rfl (Qa2 (v := vp2_2) Qg3 rfl o rfl) ?_
   obtain ⟨ay, aa, hm⟩ := bnd hm
   refine qe rfl (eC Xgp rfl (Qoo aa Z)) ?_
   rintro _ bb ⟨rfl, az⟩
   refine qm rfl<|qm rfl<|Qa9 ?_
   exact ⟨rfl, ay, sbq, hm, (kz0.gr az)⟩
 clear hm; rintro a1 w4 ⟨hm, K4⟩
 have bc := K4.size
 unfold Qh9 at hm
 refine Qa3<|Xe5<|Qaz ?_
 have ab := (aw.kz K4)
 refine qj (β := Bool) ([7, 9] ++ rg 40 41) (fun a2 => [(7, .bool a2)]) (fun a2 wr => (Qmg p0 p1 a2 = some r) ∧ Kz [] w4 wr) ?_ ?_
 · refine qj (β := List Qag × Int × Value × Nat × Nat) (rg 40 11) (fun ⟨a3, a5, vy4, zy4, gy4⟩ => [(48, vy4), (49, .int .i64 a5), (50, .int .i64 0)]) (fun ⟨a3, a5, vy4, zy4, gy4⟩ wr => (Qpe p0 p1 a1 a3 a5 = some r) ∧ Own wr zy4 gy4 31 2 vy4 (a3.map Qag.cs) ∧ Hdn (zy4 = 0 ∨ w4.heap.size ≤ gy4) ∧ Kz [] w4 wr) ?_ ?_
   · refine dw [([])] [] (.fork [(0,10),(1,10),(3,10),(4,10),(5,10),(6,10),(10,10)] (.leaf [(2,0),(7,0),(8,0),(9,0)]) (.leaf [(7,0),(2,0),(8,0),(9,0)])) ?_
     intro ac p aT
     refine Qbf<|dh 0 rfl rfl (fun w hS => Qa0 Qee rfl) ?_
     have aA := ((o.kz K4).gr p)
     refine dh 0 rfl rfl (fun w hS => Qa2 (v := vp2_2) Qg3 rfl (Bx.kp aA hS) rfl)<|dh 0 rfl rfl (fun w hS => Qa0 Qv1 rfl)<|dh 0 rfl rfl (fun w hS => Qa0 Qn6 rfl) ?_
     have aB := (((M.gr G3).kz K4).gr p)
     refine dh 0 rfl rfl (fun w hS => Qa2 (v := wv p1.Share.X) Qb7 rfl (Bx.kp aB hS) rfl)<|dh 0 rfl rfl (fun w hS => Qau (cs := Qag.cs (Qag.mk p1.Share.X 1#64)) Xam rfl rfl)<|dm 0 rfl rfl<|Qbx ?_ ?_
     · refine Qam ?_
       have aC := (((n.gr Y1).kz K4).gr p)
       obtain ⟨aD, ad, hm⟩ := bnd hm
       refine qz [] rfl (eC Xh0 rfl (Qly ad aC)) ⟨fun _ => tk0, trivial⟩ ?_
       rintro U bd ⟨_, q, s, rfl, t, f, O⟩
       have bf := O.size
       refine kG O<|qz [] rfl (Qcx [(Qag.mk p1.Share.X 1#64)] Qag.cs Qnw rfl rfl (Qh6 rfl) rfl rfl rfl) ⟨fun _ => tk0, trivial⟩ ?_
       rintro aU bg ⟨aV, aE, ae, C⟩
       have bh := C.size
       refine kG C ?_
       have aF := (t.gr C)
       obtain ⟨R, af, hm⟩ := bnd hm
       refine qz [(q, s)] rfl (Qfn (l := aD) (m := [(Qag.mk p1.Share.X 1#64)]) (c := Qag.cs) Qsc rfl rfl aF (Own.rd ae) af (by decide)) ⟨fun _ => (tk1 (Qbn (A := (fun x => ac.heap.size ≤ x)) f)), trivial⟩ ?_
       rintro ag bi ⟨ah, ai, G, H, aW, aj⟩
       refine ⟨Kz.ofKa H, ?_⟩
       refine qw rfl (Qba (l := R) (c := Qag.cs) Tryz.underlying46 rfl (Own.rd G))<|Qa9 ?_
       exact ⟨rfl, ⟨R, (R.length : Int), ag, ah, ai⟩, sbq, hm, G, ⟨(Qg4 (A := (fun x => w4.heap.size ≤ x)) aj (Qbn (A := (fun x => w4.heap.size ≤ x)) f))⟩, ((((kz0.gr p).gr O).gr C).ka H (tk1 (Qbn (A := (fun x => w4.heap.size ≤ x)) f)))⟩
     refine Qam<|qz [] rfl (Qcx [(Qag.mk p1.Share.X 1#64)] Qag.cs Qnw rfl rfl (Qh6 rfl) rfl rfl rfl) ⟨fun _ => tk0, trivial⟩ ?_
     rintro aX bj ⟨aY, aG, ak, D⟩
     have bk := D.size
     refine kG D ?_
     have aH := ((((n.gr Y1).kz K4).gr p).gr D)
     obtain ⟨aI, al, hm⟩ := bnd hm
     refine qz [] rfl (eC Xh0 rfl (Qly al aH)) ⟨fun _ => tk0, trivial⟩ ?_
     rintro V bl ⟨_, u, y, rfl, z, g, E⟩
     have bm := E.size
     refine kG E ?_
     have aJ := (ak.gr E)
     obtain ⟨S, am, hm⟩ := bnd hm
     refine qz [(u, y)] rfl (Qfn (l := aI) (m := [(Qag.mk p1.Share.X 1#64)]) (c := Qag.cs) Qsc rfl rfl z (Own.rd aJ) am (by decide)) ⟨fun _ => (tk1 (Qbn (A := (fun x => ac.heap.size ≤ x)) g)), trivial⟩ ?_
     rintro an bn ⟨ao, ap, I, J, aZ, aq⟩
     refine ⟨Kz.ofKa J, ?_⟩
     refine qw rfl (Qba (l := S) (c := Qag.cs) Tryz.underlying46 rfl (Own.rd I))<|Qa9 ?_
     exact ⟨rfl, ⟨S, (S.length : Int), an, ao, ap⟩, sbq, hm, I, ⟨(Qg4 (A := (fun x => w4.heap.size ≤ x)) aq (Qbn (A := (fun x => w4.heap.size ≤ x)) g))⟩, ((((kz0.gr p).gr D).gr E).ka J (tk1 (Qbn (A := (fun x => w4.heap.size ≤ x)) g)))⟩
   clear hm; rintro ⟨a3, a5, vy4, zy4, gy4⟩ w6 ⟨hm, T, aK, K6⟩
   have bo := K6.size
   unfold Qpe at hm
   refine Qao ?_
   refine Qbk (α := Nat × Bool × Int) ([7, 9] ++ rg 50 31) (fun ⟨n4, a8, a9⟩ => [(7, .bool a8), (50, .int .i64 a9)]) (fun ⟨n4, a8, a9⟩ wr => (Qcr (Qme p0 p1 a3 a5) n4 (a8, a9) = some r) ∧ Kz [] w6 wr) (fun ⟨n4, a8, a9⟩ => n4) ⟨Qdn, a1, 0⟩ ?_ ?_ ?_
   · exact sbq
   · exact ⟨hm, Kz.refl _ _⟩
   clear hm; rintro ⟨n4, a8, a9⟩ w7 ⟨hm, K7⟩
   have bp := K7.size
   have hb := Qbt hm; clear hm; obtain ⟨n4, rfl, hm⟩ := hb
   generalize h : Qcr (Qme p0 p1 a3 a5) n4 = a0 at hm
   unfold Qme at hm
   try dsimp only at hm
   refine qs 1 rfl<|qv rfl (Qc9 (a := a9) (b := a5) rfl rfl)<|Qa1<|Qa3<|cnF rfl (fun c2 => ?_) (fun c2 => ?_)
   · replace hm := iF c2 hm
     refine Qbq<|Qb6<|Qb6<|Qbo ?_
     exact ⟨rfl, a8, sbq, hm, ((kz0.kz K6).kz K7)⟩
   replace hm := iT c2 hm
   refine qu<|Qa3<|Qao<|qs 4 rfl ?_
   obtain ⟨j, K, hm⟩ := bnd hm
   have ar := (T.kz K7)
   refine qv rfl (Qex (i := a9) Tryz.underlying46 (Qfg).siz rfl (Own.rd ar) rfl K)<|qv rfl (Qgy Qfg rfl (Own.rd ar) K (by first | rfl | omega))<|qe rfl (Qaa (cs := Qag.cs (Qag.mk 0#64 0#64)) Qw5 rfl) ?_
   rintro _ w8 ⟨b8, rfl, a4, aL, G8⟩
   refine qe rfl (Qah Qfg rfl rfl rfl aL rfl rfl) ?_
   rintro _ w9 ⟨F, M9⟩
   refine Qa1<|Qa3<|qs 2 rfl<|qm rfl<|qv rfl (Qci rfl)<|Qa1 ?_
   refine Qal rfl (fun c3 => ?_) (fun c3 => ?_)
   · replace hm := Qc0 c3 hm
     refine Qbq<|Qb6<|Xbd rfl<|Qb6<|Qb6<|Qbo ?_
     exact ⟨rfl, a8, sbq, hm, ((((kz0.kz K6).kz K7).gr G8).md M9)⟩
   replace hm := Qc1 c3 hm
   refine qu<|qg 25 rfl<|qv rfl (Qa0 Qn6 rfl)<|qv rfl (Qa2 (v := wv j.X) Qb7 rfl F rfl)<|qv rfl (Qty (c := j.X) (d := 1#64) rfl rfl)<|qpF rfl (Qad rfl) (fun c4 => ?_) (fun c4 => ?_)
   · replace hm := iF c4 hm
     refine qk rfl<|qk rfl<|qk rfl<|qk rfl<|qk rfl<|qk rfl<|qm rfl ?_
     refine qm rfl<|qk rfl<|qk rfl<|qk rfl<|qm rfl<|qm rfl<|qk rfl ?_
     refine qk rfl<|qk rfl<|qk rfl<|qk rfl<|qk rfl<|qm rfl<|qm rfl ?_
     refine Qa9<|Qb1<|Qaz<|qg 2 rfl<|qv rfl (Qc6 (k := .i64) (a := a9) (b := 1) rfl rfl)<|qm rfl<|Qa9 ?_
     have K_34 : Kz [] w6 w9 := ((K7.gr G8).md M9)
     subst h
     exact ⟨rfl, ⟨n4, false, w64 (a9 + 1)⟩, sbq, ⟨hm, K_34⟩, Nat.lt_succ_self _⟩
   replace hm := iT c4 hm
   refine qv rfl (Qa0 Qn6 rfl)<|qv rfl (Qa2 (v := wv j.X) Qb7 rfl F rfl)<|qv rfl (Qa0 Qjd rfl)<|qv rfl (Qa0 Qlo rfl) ?_
   have Y3 := Gr.trans G2 G3
   have au := ((((((B.gr Y3).kz K4).kz K6).kz K7).gr G8).md M9)
   refine qv rfl (Qa2 (v := wv p0.Group.Q) Qb7 rfl au rfl)<|qv rfl (Qqs (c := j.X) (d := p0.Group.Q) rfl rfl)<|qm rfl<|qpF rfl (Qad rfl) (fun c5 => ?_) (fun c5 => ?_)
   · replace hm := iF c5 hm
     refine qk rfl<|qk rfl<|qk rfl<|qm rfl<|qm rfl<|qk rfl<|qk rfl ?_
     refine qk rfl<|qk rfl<|qk rfl<|qk rfl<|qm rfl<|qm rfl<|Qa9 ?_
     refine Qb1<|Qaz<|qg 2 rfl<|qv rfl (Qc6 (k := .i64) (a := a9) (b := 1) rfl rfl)<|qm rfl<|Qa9 ?_
     have K_33 : Kz [] w6 w9 := ((K7.gr G8).md M9)
     subst h
     exact ⟨rfl, ⟨n4, false, w64 (a9 + 1)⟩, sbq, ⟨hm, K_33⟩, Nat.lt_succ_self _⟩
   replace hm := iT c5 hm
   refine qv rfl (Qa0 Qrl rfl)<|qv rfl (Qa2 (v := wv j.Y) Qb7 rfl F rfl)<|qv rfl (Qty (c := j.Y) (d := 1#64) rfl rfl)<|qm rfl<|qpF rfl (Qad rfl) (fun c6 => ?_) (fun c6 => ?_)
   · replace hm := iF c6 hm
     refine qk rfl<|qk rfl<|qk rfl<|qk rfl<|qk rfl<|qk rfl<|qm rfl ?_
     refine qm rfl<|Qa9<|Qb1<|Qaz<|qg 2 rfl<|qv rfl (Qc6 (k := .i64) (a := a9) (b := 1) rfl rfl)<|qm rfl ?_
     refine Qa9 ?_
     have K_32 : Kz [] w6 w9 := ((K7.gr G8).md M9)
     subst h
     exact ⟨rfl, ⟨n4, false, w64 (a9 + 1)⟩, sbq, ⟨hm, K_32⟩, Nat.lt_succ_self _⟩
   replace hm := iT c6 hm
   refine qv rfl (Qa0 Qrl rfl)<|qv rfl (Qa2 (v := wv j.Y) Qb7 rfl F rfl)<|qv rfl (Qa0 Qjd rfl)<|qv rfl (Qa0 Qpf rfl)<|qv rfl (Qa2 (v := wv p0.Group.P) Qb7 rfl au rfl)<|qv rfl (Qqs (c := j.Y) (d := p0.Group.P) rfl rfl)<|qm rfl ?_
   refine qm rfl<|Qa9<|Qb1<|Qaz<|qg 2 rfl<|qv rfl (Qc6 (k := .i64) (a := a9) (b := 1) rfl rfl)<|qm rfl ?_
   refine Qa9 ?_
   have K_31 : Kz [] w6 w9 := ((K7.gr G8).md M9)
   subst h
   exact ⟨rfl, ⟨n4, decide (j.Y < p0.Group.P), w64 (a9 + 1)⟩, sbq, ⟨hm, K_31⟩, Nat.lt_succ_self _⟩
 clear hm; rintro a2 w5 ⟨hm, K5⟩
 unfold Qmg at hm
 refine qs 11 rfl<|qm rfl<|qpF rfl (Qad rfl) (fun c1 => ?_) (fun c1 => ?_)
 · replace hm := Qc1 c1 hm
   refine qk rfl<|qk rfl<|qk rfl<|qk rfl<|qk rfl<|qk rfl<|qk rfl ?_
   refine qm rfl<|qm rfl<|Qa1<|Qaf<|Xdu ?_
   have aM := (ab.kz K5)
   cases hm
   refine ⟨_, _, rfl, Qay rfl (Qac rfl), ?_⟩
   exact ⟨rfl, aM⟩
 replace hm := Qc0 c1 hm
 refine qv rfl (Qa0 Qv1 rfl)<|qv rfl (Qa0 Qrl rfl) ?_
 have aN := (((M.gr G3).kz K4).kz K5)
 refine qv rfl (Qa2 (v := wv p1.Share.Y) Qb7 rfl aN rfl)<|qv rfl (Qa0 Qjd rfl)<|qv rfl (Qa0 Qlo rfl) ?_
 have Y4 := Gr.trans G2 G3
 have aO := (((B.gr Y4).kz K4).kz K5)
 refine qv rfl (Qa2 (v := wv p0.Group.Q) Qb7 rfl aO rfl)<|qv rfl (Qqs (c := p1.Share.Y) (d := p0.Group.Q) rfl rfl)<|qm rfl<|qm rfl<|Qa1<|Qaf<|Xdu ?_
 have aP := (ab.kz K5)
 cases hm
 refine ⟨_, _, rfl, Qay rfl (Qac rfl), ?_⟩
 exact ⟨rfl, aP⟩
theorem Qoc {p0 r} (hm : Qk1 p0 = some r) {w : World} :
    Calls Tryz.prog 236 [wv p0].toArray w fun e w' => ∃ v, e = .returned v ∧ (v = .bool r ∧ Gr w w') := by
 unfold Qk1 at hm
 refine Qa5 9 Tryz.func236 rfl rfl rfl<|qs 1 rfl<|qm rfl<|qd 7 rfl ?_
 refine qm rfl<|qv rfl (Qty (c := p0) (d := 1#64) rfl rfl)<|qp rfl (Qad rfl) (fun c1 => ?_) (fun c1 => ?_)
 · replace hm := iT c1 hm
   refine qm rfl<|qv rfl (Qqs (c := p0) (d := 4294967296#64) rfl rfl)<|qm rfl<|qm rfl<|Qa1<|Qaf ?_
   cases hm
   refine ⟨_, _, rfl, Qay rfl (Qac rfl), ?_⟩
   exact ⟨rfl, (Gr.refl w)⟩
 replace hm := iF c1 hm
 refine qk rfl<|qk rfl<|qm rfl<|qm rfl<|Qa1<|Qaf ?_
 cases hm
 refine ⟨_, _, rfl, Qay rfl (Qac rfl), ?_⟩
 exact ⟨rfl, (Gr.refl w)⟩
theorem Qtn {p0 p1 p2 r} (hm : Qno p0 p1 p2 = some r) {w : World} :
    Calls Tryz.prog 180 [wv p0, wv p1, wv p2].toArray w fun e w' => ∃ v, e = .returned v ∧ (v = .tuple [wv r.1, .int .i64 r.2].toArray ∧ Gr w w') := by
 unfold Qno at hm
 refine Qa5 15 Tryz.func180 rfl rfl rfl<|qs 2 rfl<|qm rfl<|qm rfl<|Qa1<|Qa3 ?_
 refine qs 3 rfl<|qm rfl ?_
 obtain ⟨x1, a, hm⟩ := bnd hm
 refine qe rfl (eC Xgl rfl (Qoc a)) ?_
 rintro _ w1 ⟨rfl, G1⟩
 refine qv rfl (Qci rfl)<|Qa1<|Qal rfl (fun c1 => ?_) (fun c1 => ?_)
 · replace hm := Qc0 c1 hm
   refine qs 2 rfl<|qm rfl<|qm rfl<|Qa1<|Qaf<|Qb2 ?_
   have X2 := ((Gr.refl w).trans G1)
   cases hm
   refine ⟨_, _, rfl, Qbm rfl (Qac rfl) (Qac rfl), ?_⟩
   exact ⟨rfl, X2⟩
 replace hm := Qc1 c1 hm
 refine qu<|qs 6 rfl<|qm rfl<|qm rfl<|qm rfl ?_
 obtain ⟨x2, b, hm⟩ := bnd hm
 refine qe rfl (eC Xh6 rfl (Qpz b)) ?_
 rintro _ w2 ⟨rfl, G2⟩
 refine qm rfl<|qm rfl<|Qa1<|Qaf ?_
 have X4 := (((Gr.refl w).trans G1).trans G2)
 cases hm
 refine ⟨_, _, rfl, Qbm rfl (Qac rfl) (Qac rfl), ?_⟩
 exact ⟨rfl, X4⟩
theorem Qkb {p0 p1 p2 r} (hm : Qlc p0 p1 p2 = some r) {w : World} :
    Calls Tryz.prog 101 [.agg (Qaj.cs p0).toArray, wv p1, wv p2].toArray w fun e w' => ∃ v, e = .returned v ∧ (v = wv r ∧ Gr w w') := by
 unfold Qlc at hm
 refine Qa5 19 Tryz.func101 rfl rfl rfl<|qs 2 rfl<|qe rfl (Qat (cs := Qaj.cs p0) rfl rfl) ?_
 rintro _ w1 ⟨b1, rfl, c, a, G1⟩
 refine qm rfl<|qd 11 rfl<|qm rfl<|qm rfl<|qv rfl (Qa0 Qjd rfl) ?_
 refine qv rfl (Qa0 Qpf rfl)<|qv rfl (Qa2 (v := wv p0.Group.P) Qb7 rfl a rfl) ?_
 obtain ⟨x1, b, hm⟩ := bnd hm
 refine qe rfl (eC Xmh rfl (Qtn b)) ?_
 rintro _ w2 ⟨rfl, G2⟩
 refine qm rfl<|qm rfl<|qm rfl<|qm rfl<|qm rfl<|Qa1<|Qa3 ?_
 refine qg 2 rfl<|qm rfl<|qm rfl<|Qa1<|Qaf ?_
 have X4 := (((Gr.refl w).trans G1).trans G2)
 cases hm
 refine ⟨_, _, rfl, Qay rfl (Qac rfl), ?_⟩
 exact ⟨rfl, X4⟩
theorem Qsn {p0 p1 p2 r} (hm : Qn2 p0 p1 p2 = some r) {w : World} :
    Calls Tryz.prog 109 [wv p0, wv p1, wv p2].toArray w fun e w' => ∃ v, e = .returned v ∧ (v = wv r ∧ Gr w w') := by
 unfold Qn2 at hm
 refine Qa5 14 Tryz.func109 rfl rfl rfl<|qs 1 rfl<|qm rfl<|qd 8 rfl ?_
 refine qm rfl<|qm rfl<|qv rfl (Qrw (a := p1) (b := p0) rfl rfl)<|qm rfl<|qv rfl (Quv (a := p1 + p0) (b := p2) rfl rfl)<|qm rfl ?_
 obtain ⟨x1, f, hm⟩ := bnd hm
 refine qv rfl (Qkh (c := (p1 + p0) - p2) (d := p0) rfl rfl f)<|qm rfl<|Qa1<|Qaf ?_
 cases hm
 refine ⟨_, _, rfl, Qay rfl (Qac rfl), ?_⟩
 exact ⟨rfl, (Gr.refl w)⟩
theorem Qt0 {p0 p1 r} (hm : Qnp p0 p1 = some r) {w : World} :
    Calls Tryz.prog 185 [wv p0, wv p1].toArray w fun e w' => ∃ v, e = .returned v ∧ (v = .tuple [wv r.1, .int .i64 r.2].toArray ∧ Gr w w') := by
 unfold Qnp at hm
 refine Qa5 50 Tryz.func185 rfl rfl rfl<|qs 2 rfl<|qm rfl<|qm rfl<|Qa1<|Qa3 ?_
 refine qs 3 rfl<|qm rfl ?_
 obtain ⟨x1, n, hm⟩ := bnd hm
 refine qe rfl (eC Xgl rfl (Qoc n)) ?_
 rintro _ w1 ⟨rfl, G1⟩
 refine qv rfl (Qci rfl)<|Qa1<|Qal rfl (fun c1 => ?_) (fun c1 => ?_)
 · replace hm := Qc0 c1 hm
   refine qs 2 rfl<|qm rfl<|qm rfl<|Qa1<|Qaf<|Qb2 ?_
   have X2 := ((Gr.refl w).trans G1)
   cases hm
   refine ⟨_, _, rfl, Qbm rfl (Qac rfl) (Qac rfl), ?_⟩
   exact ⟨rfl, X2⟩
 replace hm := Qc1 c1 hm
 refine qu<|Qa3<|dw [([])] [] (.leaf [(0,10),(1,10),(2,10),(3,10),(4,10),(5,10),(6,10),(7,10)]) ?_
 intro w2 G2 q
 refine Qam<|dm 0 rfl rfl<|dh 0 rfl rfl (fun w hS => Qp8 Qti rfl)<|dm 0 rfl rfl<|dm 0 rfl rfl ?_
 obtain ⟨x2, o, hm⟩ := bnd hm
 refine dh 0 rfl rfl (fun w hS => Qkh (c := p0) (d := p1) rfl rfl o)<|dh 0 rfl rfl (fun w hS => Qp8 Qti rfl)<|dm 0 rfl rfl<|dm 0 rfl rfl<|qd 2 rfl ?_
 refine qm rfl<|qm rfl<|Qa1<|Qa3<|Qao ?_
 have X3 := (((Gr.refl w).trans G1).trans G2)
 refine Qbk (α := Nat × Int × Int × Int × Int) (rg 6 5 ++ rg 20 17) (fun ⟨n1, a7, a8, a9, f⟩ => [(6, .int .i64 a7), (7, .int .i64 a8), (8, .int .i64 a9), (9, .int .i64 f)]) (fun ⟨n1, a7, a8, a9, f⟩ wr => (Qcr (Qi9 p1) n1 (a7, a8, a9, f) = some r) ∧ Kz [] w2 wr) (fun ⟨n1, a7, a8, a9, f⟩ => n1) ⟨Qdn, w64 (un p1), w64 (un x2), 0, 1⟩ ?_ ?_ ?_
 · exact sbq
 · exact ⟨hm, Kz.refl _ _⟩
 clear hm; rintro ⟨n1, a7, a8, a9, f⟩ w3 ⟨hm, K3⟩
 have hb := Qbt hm; clear hm; obtain ⟨n1, rfl, hm⟩ := hb
 generalize h : Qcr (Qi9 p1) n1 = p at hm
 unfold Qi9 at hm
 try dsimp only at hm
 refine Qa3<|qs 2 rfl<|qm rfl<|qv rfl (Qby (a := a8) (b := 0) rfl rfl)<|Qa1<|Qal rfl (fun c2 => ?_) (fun c2 => ?_)
 · replace hm := iT c2 hm
   refine qu<|Qao<|qs 4 rfl<|qm rfl<|qm rfl ?_
   obtain ⟨g, i, hm⟩ := bnd hm
   refine qv rfl (Qmr (a := a7) (b := a8) rfl rfl i)<|qm rfl<|qd 8 rfl<|qm rfl<|qm rfl ?_
   refine qm rfl<|qm rfl<|qv rfl (Qhy (k := .i64) (a := g) (b := a8) rfl rfl)<|qv rfl (Qhm (k := .i64) (a := a7) (b := w64 (g * a8)) rfl rfl)<|qm rfl<|qm rfl<|Qa1 ?_
   refine qg 8 rfl<|qm rfl<|qm rfl<|qm rfl<|qm rfl<|qv rfl (Qhy (k := .i64) (a := g) (b := f) rfl rfl)<|qv rfl (Qhm (k := .i64) (a := a9) (b := w64 (g * f)) rfl rfl) ?_
   refine qm rfl<|qm rfl<|Qa9<|Qb1 ?_
   have K_5 : Kz [] w2 w3 := K3
   subst h
   exact ⟨rfl, ⟨n1, a8, w64 (a7 - (w64 (g * a8))), f, w64 (a9 - (w64 (g * f)))⟩, sbq, ⟨hm, K_5⟩, Nat.lt_succ_self _⟩
 replace hm := iF c2 hm
 refine Qbq<|Qb6<|Qb6<|Qbo<|Qaz<|Qa3<|Qa3 ?_
 refine qg 2 rfl<|qm rfl<|qv rfl (Qby (a := a7) (b := 1) rfl rfl)<|Qa1<|Qal rfl (fun c3 => ?_) (fun c3 => ?_)
 · replace hm := iT c3 hm
   refine qs 2 rfl<|qm rfl<|qm rfl<|Qa1<|Qaf<|Qb2 ?_
   have X6 := (X3.kz K3)
   cases hm
   refine ⟨_, _, rfl, Qbm rfl (Qac rfl) (Qac rfl), ?_⟩
   exact ⟨rfl, X6⟩
 replace hm := iF c3 hm
 refine qu<|qs 13 rfl<|qm rfl<|qm rfl<|qv rfl (Qp8 Qti rfl) ?_
 obtain ⟨j, l, hm⟩ := bnd hm
 refine qv rfl (Qj5 (a := a9) (b := w64 (un p1)) rfl rfl l)<|qm rfl<|qv rfl (Qp8 Qti rfl)<|qv rfl (Qc6 (k := .i64) (a := j) (b := w64 (un p1)) rfl rfl)<|qm rfl<|qv rfl (Qp8 Qti rfl) ?_
 obtain ⟨s, m, hm⟩ := bnd hm
 refine qv rfl (Qj5 (a := w64 (j + (w64 (un p1)))) (b := w64 (un p1)) rfl rfl m)<|qv rfl (Qer Xic rfl)<|qm rfl<|qm rfl<|Qa1<|Qaf ?_
 have X7 := (X3.kz K3)
 cases hm
 refine ⟨_, _, rfl, Qbm rfl (Qac rfl) (Qac rfl), ?_⟩
 exact ⟨rfl, X7⟩
theorem Qsp {p0 p1 p2 r} (hm : Qn0 p0 p1 p2 = some r) {w : World} :
    Calls Tryz.prog 110 [wv p0, wv p1, wv p2].toArray w fun e w' => ∃ v, e = .returned v ∧ (v = wv r ∧ Gr w w') := by
 unfold Qn0 at hm
 refine Qa5 20 Tryz.func110 rfl rfl rfl<|qs 1 rfl<|qm rfl<|qd 8 rfl ?_
 refine qm rfl<|qm rfl ?_
 obtain ⟨x1, a, hm⟩ := bnd hm
 refine qe rfl (eC Xm8 rfl (Qt0 a)) ?_
 rintro _ w1 ⟨rfl, G1⟩
 refine qm rfl<|qm rfl<|qm rfl<|qm rfl<|qm rfl<|Qa1<|Qa3 ?_
 refine qg 6 rfl<|qm rfl<|qm rfl<|qm rfl<|qe rfl (Qcx [p1, x1.1] uwc Qou rfl rfl (Qh6 rfl) rfl rfl rfl) ?_
 rintro f w2 ⟨g, d, b, G2⟩
 obtain ⟨x2, c, hm⟩ := bnd hm
 refine qe rfl (eC Qws rfl (Qgq c (Own.rd b))) ?_
 rintro _ w3 ⟨rfl, G3⟩
 refine qm rfl<|Qa1<|Qaf ?_
 have X5 := ((((Gr.refl w).trans G1).trans G2).trans G3)
 cases hm
 refine ⟨_, _, rfl, Qay rfl (Qac rfl), ?_⟩
 exact ⟨rfl, X5⟩
theorem Qn7 {p0 r} (hm : Qmf p0 = some r) {w : World} :
    Calls Tryz.prog 105 [wv p0].toArray w fun e w' => ∃ v, e = .returned v ∧ (v = kv r ∧ Gr w w') := by
 unfold Qmf at hm
 refine Qa5 6 Tryz.func105 rfl rfl rfl<|qs 1 rfl<|qe rfl (Qaa (cs := kb k0) Qef rfl) ?_
 rintro _ w1 ⟨b1, rfl, c, a, G1⟩
 refine qd 4 rfl<|qv rfl (Qe1 Qop)<|qm rfl<|qe rfl (eC Qnl rfl (Qei k0 (un8 42#8) (Qhb _) (Qhf _) p0 _)) ?_
 rintro _ w2 ⟨rfl, G2⟩
 have B4 := (a.gr G2)
 refine qe rfl (Qah Qai rfl rfl rfl B4 rfl rfl) ?_
 rintro _ w3 ⟨b, M3⟩
 refine Qa1<|Qaf ?_
 have X6 := ((((Gr.refl w).trans G1).trans G2).md M3)
 cases hm
 refine ⟨_, _, rfl, Qay rfl (Qaq Qai rfl b rfl), ?_⟩
 exact ⟨rfl, X6⟩
theorem Qxn {p0 p1 p2 vp1_1 zp1_1 gp1_1 op1_1 vp2_0 zp2_0 gp2_0 op2_0 vp2_2 zp2_2 gp2_2 op2_2 r} (hm : Qt7 p0 p1 p2 = some r) {w : World} (x : Rd w zp1_1 gp1_1 op1_1 18 vp1_1 (p1.Labels.map Qbv.cs)) (y : Rd w zp2_0 gp2_0 op2_0 18 vp2_0 (p2.Items.map Qbd.cs)) (z : Rd w zp2_2 gp2_2 op2_2 2 vp2_2 (p2.Points.map Qag.cs)) :
    Calls Tryz.prog 50 [.agg (Qaj.cs p0).toArray, .agg (Qap.cs p1 vp1_1).toArray, .agg (Qa8.cs p2 vp2_0 vp2_2).toArray].toArray w fun e w' => ∃ v, e = .returned v ∧ (v = .tuple [kv r.1, .int .i64 r.2].toArray ∧ Gr w w') := by
 have bG := x.lth
 have bH := y.lth
 have bI := z.lth
 unfold Qt7 at hm
 refine Qa5 111 Tryz.func50 rfl rfl rfl<|qs 5 rfl<|qe rfl (Qat (cs := Qaj.cs p0) rfl rfl) ?_
 rintro _ w1 ⟨b1, rfl, cE, al, G1⟩
 have c0 := al.lt
 refine qe rfl (Qat (cs := Qap.cs p1 vp1_1) rfl rfl) ?_
 rintro _ w2 ⟨b2, rfl, cF, am, G2⟩
 have c8 := am.lt
 refine qe rfl (Qat (cs := Qa8.cs p2 vp2_0 vp2_2) rfl rfl) ?_
 rintro _ w3 ⟨b3, rfl, cG, an, G3⟩
 have c9 := an.lt
 refine qe rfl (Qaa (cs := kb k0) Qef rfl) ?_
 rintro _ w4 ⟨b4, rfl, cH, t, G4⟩
 have cI := t.lt
 refine qm rfl<|Qa1<|Qa3<|qs 3 rfl ?_
 have Y1 := Gr.trans (Gr.trans G2 G3) G4
 have ao := (al.gr Y1)
 refine qv rfl (Qa6 Qcq rfl ao rfl) ?_
 obtain ⟨x1, bJ, hm⟩ := bnd hm
 refine qe rfl (eC Xeb rfl (Qm3 bJ)) ?_
 rintro _ w5 ⟨rfl, G5⟩
 have da := G5.size
 refine qv rfl (Qci rfl)<|Qa1<|Qal rfl (fun c1 => ?_) (fun c1 => ?_)
 · replace hm := Qc0 c1 hm
   refine qs 3 rfl<|qv rfl (Qe1 Qop) ?_
   have bK := (t.gr G5)
   refine qe rfl (Qah Qai rfl rfl rfl bK rfl rfl) ?_
   rintro _ w6 ⟨bL, M6⟩
   refine qm rfl<|qb ?_
   have Y2 := Gr.trans (Gr.trans G1 Y1) G5
   have bM := (((Gr.refl w).trans Y2).md M6)
   cases hm
   refine ⟨_, _, rfl, Qbm rfl (Qaq Qai rfl bL rfl) (Qac rfl), ?_⟩
   exact ⟨rfl, bM⟩
 replace hm := Qc1 c1 hm
 refine qu<|Qa3<|qs 5 rfl ?_
 have ap := (ao.gr G5)
 refine qv rfl (Qa6 Qcq rfl ap rfl) ?_
 have Y3 := Gr.trans (Gr.trans G3 G4) G5
 have aq := (am.gr Y3)
 refine qv rfl (Qa6 Qeq rfl aq rfl) ?_
 have Y4 := Gr.trans G4 G5
 have ar := (an.gr Y4)
 refine qv rfl (Qa6 Qcp rfl ar rfl) ?_
 have Y5 := Gr.trans (Gr.trans G1 Y1) G5
 have au := (x.gr Y5)
 have av := (y.gr Y5)
 have aw := (z.gr Y5)
 obtain ⟨x2, bN, hm⟩ := bnd hm
 refine qe rfl (eC Xl3 rfl (Qyn bN au av aw)) ?_
 rintro _ w7 ⟨rfl, G7⟩
 have db := G7.size
 refine qv rfl (Qci rfl)<|Qa1<|Qal rfl (fun c2 => ?_) (fun c2 => ?_)
 · replace hm := Qc0 c2 hm
   refine qs 3 rfl<|qv rfl (Qe1 Qop) ?_
   have Y6 := Gr.trans G5 G7
   have bO := (t.gr Y6)
   refine qe rfl (Qah Qai rfl rfl rfl bO rfl rfl) ?_
   rintro _ w8 ⟨bP, M8⟩
   refine qm rfl<|qb ?_
   have bQ := ((((Gr.refl w).trans Y5).trans G7).md M8)
   cases hm
   refine ⟨_, _, rfl, Qbm rfl (Qaq Qai rfl bP rfl) (Qac rfl), ?_⟩
   exact ⟨rfl, bQ⟩
 replace hm := Qc1 c2 hm
 refine qu<|Qa3<|dw [([])] [] (.leaf [(0,10),(1,10),(2,10),(3,10),(4,10),(5,10),(6,10),(7,10),(8,10),(12,10),(13,10),(9,0),(10,10),(11,0),(14,0),(15,10)]) ?_
 intro w9 G9 dc
 refine Qam<|dh 0 rfl rfl (fun w hS => Qa0 Qv1 rfl)<|dh 0 rfl rfl (fun w hS => Qa0 Qn6 rfl) ?_
 have Y7 := Gr.trans G7 G9
 have ax := (aq.gr Y7)
 refine dh 0 rfl rfl (fun w hS => Qa2 (v := wv p1.Share.X) Qb7 rfl (Bx.kp ax hS) rfl) ?_
 have ay := (ap.gr Y7)
 refine dh 0 rfl rfl (fun w hS => Qa6 Qcq rfl (Bx.kp ay hS) rfl)<|dh 0 rfl rfl (fun w hS => Qa0 Qlz rfl) ?_
 have F := (ar.gr Y7)
 refine dh 0 rfl rfl (fun w hS => Qa2 (v := wv p2.Base) Qb7 rfl (Bx.kp F hS) rfl)<|dh 0 rfl rfl (fun w hS => Qa0 Qv1 rfl)<|dh 0 rfl rfl (fun w hS => Qa0 Qrl rfl)<|dh 0 rfl rfl (fun w hS => Qa2 (v := wv p1.Share.Y) Qb7 rfl (Bx.kp ax hS) rfl)<|dh 0 rfl rfl (fun w hS => Qa0 Qee rfl)<|dh 0 rfl rfl (fun w hS => Qa2 (v := vp2_2) Qg3 rfl (Bx.kp F hS) rfl) ?_
 obtain ⟨x3, bR, hm⟩ := bnd hm
 refine qz [] rfl (eC Qx8 rfl (Qkb bR)) ⟨fun _ => tk0, trivial⟩ ?_
 rintro _ dd ⟨rfl, A⟩
 have de := A.size
 refine kG A ?_
 have az := ((Kp.refl ([]) w9).gr A)
 refine qh 0 rfl rfl az (fun w hS => Qau (cs := Qag.cs (Qag.mk p1.Share.X x3)) Xam rfl rfl)<|qz [] rfl (Qcx [(Qag.mk p1.Share.X x3)] Qag.cs Qnw rfl rfl (Qh6 rfl) rfl rfl rfl) ⟨fun _ => tk0, trivial⟩ ?_
 rintro cJ df ⟨d, bS, aA, B⟩
 have dg := B.size
 refine kG B ?_
 have Y8 := Gr.trans (Gr.trans Y7 A) B
 have aB := (aw.gr Y8)
 obtain ⟨l4, bT, hm⟩ := bnd hm
 refine qz [(1, d)] rfl (Qfn (l := [(Qag.mk p1.Share.X x3)]) (m := p2.Points) (c := Qag.cs) Qsc rfl rfl aA aB bT (by decide)) ⟨fun _ => (tk1 ((.inr tk0) : 1 = 0 ∨ w9.heap.size ≤ d)), trivial⟩ ?_
 rintro cK di ⟨cL, cM, N, f, aC, cN⟩
 have dj := f.size
 refine ⟨Kz.ofKa f, ?_⟩
 have bU := ((az.gr B).ka f (tk1 ((.inr tk0) : 1 = 0 ∨ w9.heap.size ≤ d)))
 refine dn 0 rfl rfl bU<|Qa1<|Qa3<|qs 3 rfl<|qm rfl ?_
 obtain ⟨x5, bV, hm⟩ := bnd hm
 refine qe rfl (eC Xgp rfl (Qoo bV (Own.rd N))) ?_
 rintro _ aD ⟨rfl, g⟩
 have dk := g.size
 refine qv rfl (Qci rfl)<|Qa1<|Qal rfl (fun c3 => ?_) (fun c3 => ?_)
 · replace hm := Qc0 c3 hm
   refine qs 3 rfl<|qv rfl (Qe1 Qop) ?_
   have Y9 := Gr.trans G5 Y8
   have bW := (((t.gr Y9).ka f (tk1 ((.inr tk0) : 1 = 0 ∨ d ≠ b4))).gr g)
   refine qe rfl (Qah Qai rfl rfl rfl bW rfl rfl) ?_
   rintro _ dl ⟨aE, bX⟩
   refine qm rfl<|qb ?_
   have bY := ((((((Gr.refl w).trans Y5).trans Y8).ka f (tk1 ((.inr tk0) : 1 = 0 ∨ w.heap.size ≤ d))).trans g).md bX)
   cases hm
   refine ⟨_, _, rfl, Qbm rfl (Qaq Qai rfl aE rfl) (Qac rfl), ?_⟩
   exact ⟨rfl, bY⟩
 replace hm := Qc1 c3 hm
 refine qu<|qs 5 rfl<|qv rfl (Qa0 Qjd rfl)<|qv rfl (Qa0 Qlo rfl) ?_
 have V := Gr.trans A B
 have aF := (((ay.gr V).ka f (tk1 ((.inr tk0) : 1 = 0 ∨ d ≠ b1))).gr g)
 refine qv rfl (Qa2 (v := wv p0.Group.Q) Qb7 rfl aF rfl)<|qm rfl<|qm rfl<|Qa1<|Qa3<|qs 3 rfl ?_
 refine qm rfl ?_
 have aG := (N.gr g)
 refine qv rfl (Qba (l := l4) (c := Qag.cs) Tryz.underlying46 rfl (Own.rd aG))<|qm rfl<|Qa1<|Qao ?_
 have bZ := (((((Gr.refl w).trans Y5).trans Y8).ka f (tk1 ((.inr tk0) : 1 = 0 ∨ w.heap.size ≤ d))).trans g)
 have dp := (((au.gr Y8).ka f (tk1 ((Qgb (.inr (tk1 bG.o))) : zp1_1 = 0 ∨ 1 = 0 ∨ gp1_1 ≠ d))).gr g)
 have dq := (((av.gr Y8).ka f (tk1 ((Qgb (.inr (tk1 bH.o))) : zp2_0 = 0 ∨ 1 = 0 ∨ gp2_0 ≠ d))).gr g)
 have dr := ((aB.ka f (tk1 ((Qgb (.inr (tk1 bI.o))) : zp2_2 = 0 ∨ 1 = 0 ∨ gp2_2 ≠ d))).gr g)
 refine Qbk (α := Nat × BitVec 64 × Int) (rg 10 7 ++ rg 52 47) (fun ⟨n1, a8, a9⟩ => [(10, wv a8), (52, .int .i64 a9)]) (fun ⟨n1, a8, a9⟩ wr => (Qcr (Qm9 p0 p2 l4) n1 (a8, a9) = some r) ∧ Kz [] aD wr) (fun ⟨n1, a8, a9⟩ => n1) ⟨Qdn, 1#64, 0⟩ ?_ ?_ ?_
 · exact sbq
 · exact ⟨hm, Kz.refl _ _⟩
 clear hm; rintro ⟨n1, a8, a9⟩ aH ⟨hm, n⟩
 have ds := n.size
 have hb := Qbt hm; clear hm; obtain ⟨n1, rfl, hm⟩ := hb
 generalize W : Qcr (Qm9 p0 p2 l4) n1 = O at hm
 unfold Qm9 at hm
 try dsimp only at hm
 refine qs 1 rfl<|qv rfl (Qc9 (a := a9) (b := (l4.length : Int)) rfl rfl)<|Qa1<|Qa3<|cnF rfl (fun c4 => ?_) (fun c4 => ?_)
 · replace hm := iF c4 hm
   refine Qbq<|Qb6<|Qb6<|Qbo<|Qaz ?_
   have aI := (bZ.kz n)
   refine qj (β := W2 × Nat) ([17] ++ rg 99 5) (fun ⟨u, bq24⟩ => [(17, .pointer (some ⟨bq24, 0, none⟩))]) (fun ⟨u, bq24⟩ wr => (Qoq p2 u = some r) ∧ Bx wr bq24 23 (kb u) ∧ aH.heap.size ≤ bq24 ∧ Kz [] aH wr) ?_ ?_
   · refine dw [([])] [] (.fork [(0,10),(2,10),(3,10)] (.fork [(1,0)] (.leaf [(4,0),(5,0),(6,0)]) (.leaf [(5,0),(4,0),(6,0)])) (.leaf [(5,0),(1,0),(4,0),(6,0)])) ?_
     intro dt G cO
     refine Qbf<|dm 0 rfl rfl<|dh 0 rfl rfl (fun w hS => Qa0 Qlt rfl) ?_
     have b0 := (((((F.gr V).ka f (tk1 ((.inr tk0) : 1 = 0 ∨ d ≠ b3))).gr g).kz n).gr G)
     refine dh 0 rfl rfl (fun w hS => Qb9 (vs := kb p2.Box) Qai rfl (Bx.kp b0 hS) rfl rfl)<|Qbx ?_ ?_
     · refine Qbf ?_
       obtain ⟨H, aJ, hm⟩ := bnd hm
       refine qz [] rfl (eC Xcu rfl (Qn7 aJ)) ⟨fun _ => tk0, trivial⟩ ?_
       rintro _ du ⟨rfl, I⟩
       have dv := I.size
       refine kG I<|Qbx ?_ ?_
       · refine Qam<|qz [] rfl (eC Qzf rfl (Qze H p2.Box _)) ⟨fun _ => tk0, trivial⟩ ?_
         rintro _ dy ⟨rfl, Z⟩
         have dz := Z.size
         refine kG Z<|qz [] rfl (Qaa (cs := kb k0) Qef rfl) ⟨fun _ => tk0, trivial⟩ ?_
         rintro _ dA ⟨aK, rfl, b5, aL, aM⟩
         refine kG aM<|qz [(1, aK)] rfl (Qah Qai rfl rfl rfl aL rfl rfl) ⟨fun _ => tk0, trivial⟩ ?_
         rintro _ dB ⟨aN, aO⟩
         refine kM aO<|Qa9 ?_
         exact ⟨rfl, ⟨Xdv H p2.Box, aK⟩, sbq, hm, aN, (by omega), (((((kz0.gr G).gr I).gr Z).gr aM).md aO)⟩
       refine Qam<|qz [] rfl (Qaa (cs := kb k0) Qef rfl) ⟨fun _ => tk0, trivial⟩ ?_
       rintro _ dC ⟨aP, rfl, b6, aQ, aR⟩
       refine kG aR<|qz [] rfl (eC Qzf rfl (Qze H p2.Box _)) ⟨fun _ => tk0, trivial⟩ ?_
       rintro _ dD ⟨rfl, aa⟩
       refine kG aa ?_
       have aS := (aQ.gr aa)
       refine qz [(1, aP)] rfl (Qah Qai rfl rfl rfl aS rfl rfl) ⟨fun _ => tk0, trivial⟩ ?_
       rintro _ dE ⟨aT, aU⟩
       refine kM aU<|Qa9 ?_
       exact ⟨rfl, ⟨Xdv H p2.Box, aP⟩, sbq, hm, aT, (by omega), (((((kz0.gr G).gr I).gr aR).gr aa).md aU)⟩
     refine Qam<|qz [] rfl (Qaa (cs := kb k0) Qef rfl) ⟨fun _ => tk0, trivial⟩ ?_
     rintro _ dF ⟨aV, rfl, b7, aW, aX⟩
     refine kG aX ?_
     obtain ⟨aY, aZ, hm⟩ := bnd hm
     refine qz [] rfl (eC Xcu rfl (Qn7 aZ)) ⟨fun _ => tk0, trivial⟩ ?_
     rintro _ dG ⟨rfl, ab⟩
     refine kG ab<|qz [] rfl (eC Qzf rfl (Qze aY p2.Box _)) ⟨fun _ => tk0, trivial⟩ ?_
     rintro _ dH ⟨rfl, ac⟩
     refine kG ac ?_
     have a0 := ((aW.gr ab).gr ac)
     refine qz [(1, aV)] rfl (Qah Qai rfl rfl rfl a0 rfl rfl) ⟨fun _ => tk0, trivial⟩ ?_
     rintro _ dI ⟨a1, a2⟩
     refine kM a2<|Qa9 ?_
     exact ⟨rfl, ⟨Xdv aY p2.Box, aV⟩, sbq, hm, a1, (by omega), (((((kz0.gr G).gr aX).gr ab).gr ac).md a2)⟩
   clear hm; rintro ⟨u, bq24⟩ dJ ⟨hm, J, bF, C⟩
   unfold Qoq at hm
   refine Qa3<|Qa3<|dw [([])] [] (.leaf [(0,10),(2,10),(3,10),(1,0),(4,10)]) ?_
   intro b8 K cP
   refine Qam ?_
   have a3 := (J.gr K)
   refine dh 0 rfl rfl (fun w hS => Qa6 Qai rfl (Bx.kp a3 hS) rfl)<|dh 0 rfl rfl (fun w hS => Qa0 Qn3 rfl) ?_
   have b9 := ((((((F.gr V).ka f (tk1 ((.inr tk0) : 1 = 0 ∨ d ≠ b3))).gr g).kz n).kz C).gr K)
   refine dh 0 rfl rfl (fun w hS => Qb9 (vs := kb p2.Check) Qai rfl (Bx.kp b9 hS) rfl rfl)<|qz [] rfl (eC Qnl rfl (Qei u (un8 53#8) (Qhb _) (Qhf _) 0#64 _)) ⟨fun _ => tk0, trivial⟩ ?_
   rintro _ dK ⟨rfl, D⟩
   refine kG D ?_
   have ca := ((Kp.refl ([]) b8).gr D)
   refine qh 0 rfl rfl ca (fun w hS => Qlu (cf := kb) (a := drv u (un8 53#8) 0#64) (b := p2.Check) Qpd rfl rfl rfl rfl (fun h => Qlj h))<|Qa1<|Qal rfl (fun c7 => ?_) (fun c7 => ?_)
   · replace hm := iT c7 hm
     refine qs 3 rfl<|qv rfl (Qe1 Qop) ?_
     have cb := Gr.trans G5 Y8
     have a4 := Gr.trans K D
     have cc := ((((((t.gr cb).ka f (tk1 ((.inr tk0) : 1 = 0 ∨ d ≠ b4))).gr g).kz n).kz C).gr a4)
     refine qe rfl (Qah Qai rfl rfl rfl cc rfl rfl) ?_
     rintro _ dL ⟨a5, cd⟩
     refine qm rfl<|qb ?_
     have ce := (((aI.kz C).trans a4).md cd)
     cases hm
     refine ⟨_, _, rfl, Qbm rfl (Qaq Qai rfl a5 rfl) (Qac rfl), ?_⟩
     exact ⟨rfl, ce⟩
   replace hm := iF c7 hm
   refine qu<|qs 3 rfl ?_
   have cg := (a3.gr D)
   refine qv rfl (Qa6 Qai rfl cg rfl) ?_
   have ch := Gr.trans G5 Y8
   have a6 := Gr.trans K D
   have ci := ((((((t.gr ch).ka f (tk1 ((.inr tk0) : 1 = 0 ∨ d ≠ b4))).gr g).kz n).kz C).gr a6)
   refine qe rfl (Qah Qai rfl rfl rfl ci rfl rfl) ?_
   rintro _ dM ⟨a7, cj⟩
   refine qm rfl<|Qa1<|Qaf ?_
   have ck := (((aI.kz C).trans a6).md cj)
   cases hm
   refine ⟨_, _, rfl, Qbm rfl (Qaq Qai rfl a7 rfl) (Qac rfl), ?_⟩
   exact ⟨rfl, ck⟩
 replace hm := iT c4 hm
 refine qu<|Qa3<|Qao<|qs 6 rfl<|qm rfl ?_
 obtain ⟨L, R, hm⟩ := bnd hm
 have ad := (aG.kz n)
 refine qv rfl (Qex (i := a9) Tryz.underlying46 (Qfg).siz rfl (Own.rd ad) rfl R)<|qv rfl (Qgy Qfg rfl (Own.rd ad) R (by first | rfl | omega))<|qe rfl (Qaa (cs := Qag.cs (Qag.mk 0#64 0#64)) Qw5 rfl) ?_
 rintro _ dN ⟨dO, rfl, cl, S, ae⟩
 have cQ := S.lt
 refine qm rfl<|qe rfl (Qah Qfg rfl rfl rfl S rfl rfl) ?_
 rintro _ af ⟨T, M⟩
 have dP := M.size
 refine qd 2 rfl<|qm rfl<|qm rfl<|Qa1<|Qa3 ?_
 refine qs 3 rfl<|qm rfl ?_
 have ba := ((ad.gr ae).md M (Qan aC))
 refine qv rfl (Qba (l := l4) (c := Qag.cs) Tryz.underlying46 rfl (Own.rd ba))<|qm rfl<|Qa1<|Qao ?_
 refine Qbk (α := Nat × BitVec 64 × BitVec 64 × Int) ([13, 14, 15, 16] ++ rg 59 25) (fun ⟨n2, q, s, j⟩ => [(13, wv q), (14, wv s), (59, .int .i64 j)]) (fun ⟨n2, q, s, j⟩ wr => (Qcr (Qmk p0 l4 a8 a9 O L) n2 (q, s, j) = some r) ∧ Kz [] af wr) (fun ⟨n2, q, s, j⟩ => n2) ⟨Qdn, 1#64, 1#64, 0⟩ ?_ ?_ ?_
 · exact sbq
 · exact ⟨hm, Kz.refl _ _⟩
 clear hm; rintro ⟨n2, q, s, j⟩ dQ ⟨hm, p⟩
 have dR := p.size
 have hb := Qbt hm; clear hm; obtain ⟨n2, rfl, hm⟩ := hb
 generalize E : Qcr (Qmk p0 l4 a8 a9 O L) n2 = cR at hm
 unfold Qmk at hm
 try dsimp only at hm
 refine qs 1 rfl<|qv rfl (Qc9 (a := j) (b := (l4.length : Int)) rfl rfl)<|Qa1<|Qa3<|cnF rfl (fun c5 => ?_) (fun c5 => ?_)
 · replace hm := iF c5 hm
   refine Qbq<|Qb6<|Qb6<|Qbo<|Qaz<|dw [([])] [] (.leaf [(0,10),(1,10),(2,10),(3,10),(4,10),(5,10),(6,10),(7,10),(8,10),(9,10),(10,0),(11,0),(12,0),(13,0),(14,10)]) ?_
   intro cm ag cS
   refine Qam<|dh 0 rfl rfl (fun w hS => Qa0 Qjd rfl)<|dh 0 rfl rfl (fun w hS => Qa0 Qpf rfl) ?_
   have bb := (((((aF.kz n).gr ae).md M).kz p).gr ag)
   refine dh 0 rfl rfl (fun w hS => Qa2 (v := wv p0.Group.P) Qb7 rfl (Bx.kp bb hS) rfl)<|dm 0 rfl rfl<|dh 0 rfl rfl (fun w hS => Qa6 Qcq rfl (Bx.kp bb hS) rfl)<|dh 0 rfl rfl (fun w hS => Qa0 Qrl rfl) ?_
   have cn := ((T.kz p).gr ag)
   refine dh 0 rfl rfl (fun w hS => Qa2 (v := wv L.Y) Qb7 rfl (Bx.kp cn hS) rfl)<|dm 0 rfl rfl<|dm 0 rfl rfl<|dm 0 rfl rfl ?_
   obtain ⟨dS, bc, hm⟩ := bnd hm
   refine qz [] rfl (eC Xl2 rfl (Qsp bc)) ⟨fun _ => tk0, trivial⟩ ?_
   rintro _ dT ⟨rfl, bd⟩
   refine kG bd ?_
   obtain ⟨co, bf, hm⟩ := bnd hm
   refine qz [] rfl (eC Qx8 rfl (Qkb bf)) ⟨fun _ => tk0, trivial⟩ ?_
   rintro _ dU ⟨rfl, bg⟩
   refine kG bg<|qz [] rfl (Qcx [a8, co] uwc Qou rfl rfl (Qh6 rfl) rfl rfl rfl) ⟨fun _ => tk0, trivial⟩ ?_
   rintro cT dV ⟨cU, cp, bh, bi⟩
   refine kG bi ?_
   obtain ⟨cq, bj, hm⟩ := bnd hm
   refine qz [] rfl (eC Qws rfl (Qgq bj (Own.rd bh))) ⟨fun _ => tk0, trivial⟩ ?_
   rintro _ cr ⟨rfl, bk⟩
   refine kG bk ?_
   have bl := Gr.trans (Gr.trans (Gr.trans bd bg) bi) bk
   have ct := ((Kp.refl ([]) cm).gr bl)
   refine dn 0 rfl rfl ct<|Qa9<|Qb1<|Qaz<|qg 2 rfl<|qv rfl (Qc6 (k := .i64) (a := a9) (b := 1) rfl rfl)<|qm rfl ?_
   refine Qa9 ?_
   have K_82 : Kz [] aD cr := (((((n.gr ae).md M).kz p).gr ag).gr bl)
   subst W
   exact ⟨rfl, ⟨n1, cq, w64 (a9 + 1)⟩, sbq, ⟨hm, K_82⟩, Nat.lt_succ_self _⟩
 replace hm := iT c5 hm
 refine qu<|Qa3<|Qao<|qs 6 rfl<|qm rfl ?_
 obtain ⟨ah, U, hm⟩ := bnd hm
 have bm := (ba.kz p)
 refine qv rfl (Qex (i := j) Tryz.underlying46 (Qfg).siz rfl (Own.rd bm) rfl U)<|qv rfl (Qgy Qfg rfl (Own.rd bm) U (by first | rfl | omega))<|qe rfl (Qaa (cs := Qag.cs (Qag.mk 0#64 0#64)) Qw5 rfl) ?_
 rintro _ dW ⟨dX, rfl, cu, bn, ai⟩
 refine qm rfl<|qe rfl (Qah Qfg rfl rfl rfl bn rfl rfl) ?_
 rintro _ cv ⟨bo, aj⟩
 refine qd 3 rfl<|qm rfl<|qm rfl<|qv rfl (Qby (a := j) (b := a9) rfl rfl)<|Qa1 ?_
 refine cnF rfl (fun c6 => ?_) (fun c6 => ?_)
 · replace hm := iF c6 hm
   refine Qc5<|Qb1<|Qaz<|qg 2 rfl<|qv rfl (Qc6 (k := .i64) (a := j) (b := 1) rfl rfl)<|qm rfl<|Qa9 ?_
   have K_73 : Kz [] af cv := ((p.gr ai).md aj)
   subst E
   exact ⟨rfl, ⟨n2, q, s, w64 (j + 1)⟩, sbq, ⟨hm, K_73⟩, Nat.lt_succ_self _⟩
 replace hm := iT c6 hm
 refine dw [([])] [] (.leaf [(0,10),(1,10),(2,10),(3,10),(6,10),(7,10),(8,10),(9,10),(10,10),(11,10),(12,10),(4,0),(5,0),(13,0),(14,0),(15,0),(16,10),(17,10)]) ?_
 intro cw ak cV
 refine Qam<|dm 0 rfl rfl<|dm 0 rfl rfl<|dh 0 rfl rfl (fun w hS => Qa0 Qn6 rfl) ?_
 have bp := (bo.gr ak)
 refine dh 0 rfl rfl (fun w hS => Qa2 (v := wv ah.X) Qb7 rfl (Bx.kp bp hS) rfl)<|dm 0 rfl rfl<|dm 0 rfl rfl<|dm 0 rfl rfl<|dh 0 rfl rfl (fun w hS => Qa0 Qn6 rfl)<|dh 0 rfl rfl (fun w hS => Qa2 (v := wv ah.X) Qb7 rfl (Bx.kp bp hS) rfl)<|dh 0 rfl rfl (fun w hS => Qa0 Qn6 rfl) ?_
 have cx := ((((T.kz p).gr ai).md aj).gr ak)
 refine dh 0 rfl rfl (fun w hS => Qa2 (v := wv L.X) Qb7 rfl (Bx.kp cx hS) rfl)<|qz [] rfl (Qcx [q, ah.X] uwc Qou rfl rfl (Qh6 rfl) rfl rfl rfl) ⟨fun _ => tk0, trivial⟩ ?_
 rintro cW dY ⟨cX, cy, bq, br⟩
 refine kG br ?_
 obtain ⟨cz, bs, hm⟩ := bnd hm
 refine qz [] rfl (eC Qws rfl (Qgq bs (Own.rd bq))) ⟨fun _ => tk0, trivial⟩ ?_
 rintro _ dZ ⟨rfl, bu⟩
 refine kG bu ?_
 obtain ⟨cA, bw, hm⟩ := bnd hm
 refine qz [] rfl (eC Xjx rfl (Qsn bw)) ⟨fun _ => tk0, trivial⟩ ?_
 rintro _ d0 ⟨rfl, bx⟩
 refine kG bx<|qz [] rfl (Qcx [s, cA] uwc Qou rfl rfl (Qh6 rfl) rfl rfl rfl) ⟨fun _ => tk0, trivial⟩ ?_
 rintro cY d1 ⟨cZ, cB, bz, bA⟩
 refine kG bA ?_
 obtain ⟨cC, bB, hm⟩ := bnd hm
 refine qz [] rfl (eC Qws rfl (Qgq bB (Own.rd bz))) ⟨fun _ => tk0, trivial⟩ ?_
 rintro _ cD ⟨rfl, bC⟩
 refine kG bC ?_
 have bD := Gr.trans (Gr.trans (Gr.trans (Gr.trans br bu) bx) bA) bC
 have bE := ((Kp.refl ([]) cw).gr bD)
 refine dn 0 rfl rfl bE<|dn 0 rfl rfl bE<|Qa9<|Qb1<|Qaz<|qg 2 rfl<|qv rfl (Qc6 (k := .i64) (a := j) (b := 1) rfl rfl) ?_
 refine qm rfl<|Qa9 ?_
 have K_72 : Kz [] af cD := ((((p.gr ai).md aj).gr ak).gr bD)
 subst E
 exact ⟨rfl, ⟨n2, cz, cC, w64 (j + 1)⟩, sbq, ⟨hm, K_72⟩, Nat.lt_succ_self _⟩
end Go.Proofs.YtjdffpglgkefmaaGreat.Mx
