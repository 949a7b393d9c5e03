/- Walks that follow mirrors: Xb. Printed by mx.py. -/
import Derived.Test.YtjdffpglgkefmaaGreatXa
import Derived.Test.YtjdffpglgkefmaaGreatZd
set_option linter.unusedVariables false
set_option linter.unusedSimpArgs false
set_option maxRecDepth 100000
set_option maxHeartbeats 2000000
namespace Go.Proofs.YtjdffpglgkefmaaGreat.Mx
open Go Go.RowKit Go.Sx
theorem Qqg : FA Tryz.prog 26 0 0 := fun _ _ _ => by kernel_rfl
theorem Xm6 : En Tryz.prog 234 := fun _ _ => by kernel_rfl
theorem Qmo : FA Tryz.prog 26 1 1 := fun _ _ _ => by kernel_rfl
theorem Qyj : FA Tryz.prog 26 2 2 := fun _ _ _ => by kernel_rfl
theorem Xm9 : En Tryz.prog 235 := fun _ _ => by kernel_rfl
theorem Qs0 : FA Tryz.prog 28 2 2 := fun _ _ _ => by kernel_rfl
theorem Qk5 : FA Tryz.prog 28 3 3 := fun _ _ _ => by kernel_rfl
theorem Xqc : En Tryz.prog 179 := fun _ _ => by kernel_rfl
theorem Qfp : CV Tryz.prog 3 24 .u64 := fun _ _ _ => by kernel_rfl
theorem Xkz : En Tryz.prog 98 := fun _ _ => by kernel_rfl
theorem Xn4 : ApT Tryz.prog 161 24 1 8 := Qug Tryz.underlying161 rfl (by kernel_rfl)
theorem Xj3 : ZV Tryz.prog 24 (.int .u64 0) := fun _ => by kernel_rfl
theorem Qph : ZV Tryz.prog 233 (.agg [.int .u64 0, .int .u64 0].toArray) := fun _ => by kernel_rfl
theorem Qkx : FA Tryz.prog 233 0 0 := fun _ _ _ => by kernel_rfl
theorem Qos : CV Tryz.prog 5 24 .u64 := fun _ _ _ => by kernel_rfl
theorem Qk6 : FA Tryz.prog 233 1 1 := fun _ _ _ => by kernel_rfl
theorem Qfq : Agg Tryz.prog 233 2 := fun _ => ⟨by kernel_rfl, by kernel_rfl⟩
theorem Qzs : En Tryz.prog 175 := fun _ _ => by kernel_rfl
theorem Xkg : F1 Tryz.prog 233 0 0 := Xtl (fun _ _ => by kernel_rfl)
theorem Xli : En Tryz.prog 100 := fun _ _ => by kernel_rfl
theorem Xqu : En Tryz.prog 181 := fun _ _ => by kernel_rfl
theorem Qow : One Tryz.prog 161 := fun _ => ⟨by kernel_rfl, by kernel_rfl⟩
theorem Qp3 : One Tryz.prog 163 := fun _ => ⟨by kernel_rfl, by kernel_rfl⟩
theorem Qqi : BSl Tryz.prog 160 2 24 1 [.int .u64 0, .int .u64 0] := Qr9 Tryz.underlying160 (Qb5).siz Xj3 rfl rfl (by kernel_rfl)
theorem Xat : En Tryz.prog 108 := fun _ _ => by kernel_rfl
theorem Xs8 : En Tryz.prog 237 := fun _ _ => by kernel_rfl
theorem Xf8 : En Tryz.prog 99 := fun _ _ => by kernel_rfl
theorem Xlv : En Tryz.prog 103 := fun _ _ => by kernel_rfl
theorem Xcf : ZV Tryz.prog 31 (.agg [.int .u64 0, .int .u64 0].toArray) := fun _ => by kernel_rfl
theorem Xin : BS Tryz.prog 31 (fun i => [(0, 1), (1, 1)][i]?) [.int .u64 0, .int .u64 0] := Qr5 Tryz.underlying31 Xcf ⟨rfl, (Qb5).siz, rfl, (Qb5).siz, trivial⟩
theorem Qo4 : FA Tryz.prog 31 0 0 := fun _ _ _ => by kernel_rfl
theorem Xqy : En Tryz.prog 184 := fun _ _ => by kernel_rfl
theorem Xsi : En Tryz.prog 238 := fun _ _ => by kernel_rfl
theorem Xsn : En Tryz.prog 183 := fun _ _ => by kernel_rfl
theorem Xm2 : En Tryz.prog 107 := fun _ _ => by kernel_rfl
theorem Xkv : BSl Tryz.prog 46 0 31 2 [] := Xg9 Tryz.underlying46 (Qgo).siz
theorem Qxr : ApT Tryz.prog 46 31 2 16 := Qug Tryz.underlying46 rfl (by kernel_rfl)
theorem Qyz : FA Tryz.prog 33 2 2 := fun _ _ _ => by kernel_rfl
theorem Xmj : En Tryz.prog 182 := fun _ _ => by kernel_rfl
theorem Qt2 : BSl Tryz.prog 46 1 31 2 [.int .u64 0, .int .u64 0] := Qr9 Tryz.underlying46 (Qgo).siz Xcf rfl rfl (by kernel_rfl)
theorem Qu2 : FA Tryz.prog 31 1 1 := fun _ _ _ => by kernel_rfl
theorem Xq4 : En Tryz.prog 106 := fun _ _ => by kernel_rfl
theorem Xl7 : En Tryz.prog 236 := fun _ _ => by kernel_rfl
theorem Xrd : En Tryz.prog 180 := fun _ _ => by kernel_rfl
theorem Qzp : En Tryz.prog 101 := fun _ _ => by kernel_rfl
theorem Xrq : En Tryz.prog 109 := fun _ _ => by kernel_rfl
theorem Qwv : CV Tryz.prog 24 2 .i64 := fun _ _ _ => by kernel_rfl
theorem Xn7 : CV Tryz.prog 2 24 .u64 := fun _ _ _ => by kernel_rfl
theorem Xpg : En Tryz.prog 185 := fun _ _ => by kernel_rfl
theorem Xrz : En Tryz.prog 110 := fun _ _ => by kernel_rfl
theorem Xgb : En Tryz.prog 105 := fun _ _ => by kernel_rfl
theorem Qre {p0 r} (hm : Qjk p0 = some r) {w : World} :
    Calls Tryz.prog 234 [wv p0].toArray w fun e w' => ∃ v, e = .returned v ∧ (v = .bool r ∧ Gr w w') := by
 unfold Qjk at hm
 refine Qa5 21 Tryz.func234 rfl rfl rfl<|qs 1 rfl<|qm rfl<|Qa1<|Qa3<|qj (β := Bool) (rg 4 6) (fun a1 => [(9, .bool a1)]) (fun a1 wr => (Qie p0 a1 = some r) ∧ Kz [] w wr) ?_ ?_
 · refine qg 6 rfl<|qm rfl<|qv rfl (Qs5 (c := p0) (d := 2#64) rfl rfl)<|qp rfl (Qac rfl) (fun c4 => ?_) (fun c4 => ?_)
   · replace hm := iT c4 hm
     refine qk rfl<|qk rfl<|qm rfl<|Qa9 ?_
     exact ⟨rfl, true, sbq, hm, kz0⟩
   replace hm := iF c4 hm
   refine qm rfl<|qv rfl (Xca (c := p0) (d := 1048575#64) rfl rfl)<|qm rfl<|Qa9 ?_
   exact ⟨rfl, (decide (1048575#64 < p0)), sbq, hm, kz0⟩
 clear hm; rintro a1 w1 ⟨hm, K1⟩
 unfold Qie at hm
 refine Qam rfl (fun c1 => ?_) (fun c1 => ?_)
 · replace hm := Qc8 c1 hm
   refine qs 1 rfl<|qm rfl<|qb ?_
   have X2 := ((Gr.refl w).kz K1)
   cases hm
   refine ⟨_, _, rfl, Qb1 rfl (Qab rfl), ?_⟩
   exact ⟨rfl, X2⟩
 replace hm := Qc7 c1 hm
 refine qu<|Qa3<|qs 1 rfl<|qm rfl<|Qa1 ?_
 refine Qan ?_
 have X3 := ((Gr.refl w).kz K1)
 refine Qbj (α := Nat × BitVec 64) ([2, 3] ++ rg 10 11) (fun ⟨n2, a3⟩ => [(2, .bool false), (3, wv a3)]) (fun ⟨n2, a3⟩ wr => (Qc3 (Qhx p0) n2 a3 = some r) ∧ Kz [] w1 wr) (fun ⟨n2, a3⟩ => n2) ⟨Qcw, 2#64⟩ ?_ ?_ ?_
 · exact sbq
 · exact ⟨hm, Kz.refl _ _⟩
 clear hm; rintro ⟨n2, a3⟩ w2 ⟨hm, K2⟩
 have hb := Qbv hm; clear hm; obtain ⟨n2, rfl, hm⟩ := hb
 generalize f : Qc3 (Qhx p0) n2 = h at hm
 unfold Qhx at hm
 try dsimp only at hm
 refine Qa3<|qs 5 rfl<|qm rfl<|qm rfl<|qv rfl (Qvr (a := a3) (b := a3) rfl rfl)<|qm rfl ?_
 refine qv rfl (Xmx (c := a3 * a3) (d := p0) rfl rfl)<|Qa1<|cnF rfl (fun c2 => ?_) (fun c2 => ?_)
 · replace hm := iF c2 hm
   refine Qbp<|Qb4<|Qb4<|Qbq<|Qaz<|qs 1 rfl ?_
   refine qm rfl<|Qa1<|Qag ?_
   have X7 := (X3.kz K2)
   cases hm
   refine ⟨_, _, rfl, Qb1 rfl (Qab rfl), ?_⟩
   exact ⟨rfl, X7⟩
 replace hm := iT c2 hm
 refine qu<|Qa3<|Qan<|qs 4 rfl<|qm rfl ?_
 refine qm rfl ?_
 obtain ⟨x4, g, hm⟩ := bnd hm
 refine qv rfl (Qle (c := p0) (d := a3) rfl rfl g)<|qv rfl (Qtv (c := x4) (d := 0#64) rfl rfl)<|Qa1<|Qam rfl (fun c3 => ?_) (fun c3 => ?_)
 · replace hm := iT c3 hm
   refine qs 1 rfl<|qm rfl<|Qa1<|Qag<|Qbo<|Qb2 ?_
   refine Qb2<|Qbo<|Qb2 ?_
   have X5 := (X3.kz K2)
   cases hm
   refine ⟨_, _, rfl, Qb1 rfl (Qab rfl), ?_⟩
   exact ⟨rfl, X5⟩
 replace hm := iF c3 hm
 refine Qc4<|Qay<|Qaz<|qg 3 rfl<|qm rfl<|qv rfl (Qtn (a := a3) (b := 1#64) rfl rfl)<|qm rfl ?_
 refine Qa9 ?_
 have K_6 : Kz [] w1 w2 := K2
 subst f
 exact ⟨rfl, ⟨n2, a3 + 1#64⟩, sbq, ⟨hm, K_6⟩, Nat.lt_succ_self _⟩
theorem Qrh {p0 p1 p2 r} (hm : Qjp p0 p1 p2 = some r) {w : World} :
    Calls Tryz.prog 235 [wv p0, wv p1, wv p2].toArray w fun e w' => ∃ v, e = .returned v ∧ (v = wv r ∧ Gr w w') := by
 unfold Qjp at hm
 refine Qa5 31 Tryz.func235 rfl rfl rfl<|qs 1 rfl<|qm rfl<|qd 3 rfl ?_
 refine qm rfl ?_
 obtain ⟨x1, i, hm⟩ := bnd hm
 refine qv rfl (Qle (c := 1#64) (d := p2) rfl rfl i)<|qm rfl<|Qa1<|Qa3<|qs 4 rfl<|qm rfl ?_
 refine qm rfl ?_
 obtain ⟨x2, j, hm⟩ := bnd hm
 refine qv rfl (Qle (c := p0) (d := p2) rfl rfl j)<|qm rfl<|Qa1<|Qan<|Qbj (α := Nat × BitVec 64 × BitVec 64 × BitVec 64) ([0, 1, 7] ++ rg 13 17) (fun ⟨n1, a6, a7, a8⟩ => [(0, wv a6), (1, wv a7), (7, wv a8)]) (fun ⟨n1, a6, a7, a8⟩ wr => (Qc3 (Qfa p2) n1 (a6, a7, a8) = some r) ∧ Kz [] w wr) (fun ⟨n1, a6, a7, a8⟩ => n1) ⟨Qcw, x2, p1, x1⟩ ?_ ?_ ?_
 · exact sbq
 · exact ⟨hm, Kz.refl _ _⟩
 clear hm; rintro ⟨n1, a6, a7, a8⟩ w1 ⟨hm, K1⟩
 have hb := Qbv hm; clear hm; obtain ⟨n1, rfl, hm⟩ := hb
 generalize f : Qc3 (Qfa p2) n1 = p at hm
 unfold Qfa at hm
 try dsimp only at hm
 refine Qa3<|qs 2 rfl<|qm rfl<|qv rfl (Xca (c := a7) (d := 0#64) rfl rfl)<|Qa1<|cnF rfl (fun c1 => ?_) (fun c1 => ?_)
 · replace hm := iF c1 hm
   refine Qbp<|Qb4<|Qb4<|Qbq<|Qaz<|qs 2 rfl ?_
   refine qm rfl<|qm rfl<|Qa1<|Qag ?_
   have X4 := ((Gr.refl w).kz K1)
   cases hm
   refine ⟨_, _, rfl, Qb1 rfl (Qab rfl), ?_⟩
   exact ⟨rfl, X4⟩
 replace hm := iT c1 hm
 refine qu<|Qa3<|Qan<|Qa3<|qs 3 rfl ?_
 refine qm rfl<|qv rfl (Xow (a := a7) (b := 1#64) rfl rfl)<|qv rfl (Qtv (c := a7 &&& 1#64) (d := 1#64) rfl rfl)<|Qa1<|cnF rfl (fun c2 => ?_) (fun c2 => ?_)
 · replace hm := iF c2 hm
   refine qu<|qg 6 rfl<|qm rfl<|qm rfl<|qv rfl (Qvr (a := a6) (b := a6) rfl rfl)<|qm rfl ?_
   obtain ⟨k, g, hm⟩ := bnd hm
   refine qv rfl (Qle (c := a6 * a6) (d := p2) rfl rfl g)<|qm rfl<|Qa9<|Qay<|Qaz<|qg 3 rfl<|qm rfl ?_
   obtain ⟨l, hn13, hm⟩ := bnd hm
   refine qv rfl (Qvy (c := a7) (b := (un 1#64)) rfl rfl hn13)<|qm rfl<|Qa9 ?_
   have K_3 : Kz [] w w1 := K1
   subst f
   exact ⟨rfl, ⟨n1, k, a7 >>> l, a8⟩, sbq, ⟨hm, K_3⟩, Nat.lt_succ_self _⟩
 replace hm := iT c2 hm
 refine qg 6 rfl<|qm rfl<|qm rfl<|qv rfl (Qvr (a := a8) (b := a6) rfl rfl)<|qm rfl ?_
 obtain ⟨x9, m, hm⟩ := bnd hm
 refine qv rfl (Qle (c := a8 * a6) (d := p2) rfl rfl m)<|qm rfl<|Qa1<|qg 6 rfl<|qm rfl<|qm rfl<|qv rfl (Qvr (a := a6) (b := a6) rfl rfl) ?_
 refine qm rfl ?_
 obtain ⟨n, h, hm⟩ := bnd hm
 refine qv rfl (Qle (c := a6 * a6) (d := p2) rfl rfl h)<|qm rfl<|Qa9<|Qay<|Qaz<|qg 3 rfl<|qm rfl ?_
 obtain ⟨o, hn11, hm⟩ := bnd hm
 refine qv rfl (Qvy (c := a7) (b := (un 1#64)) rfl rfl hn11)<|qm rfl<|Qa9 ?_
 have K_2 : Kz [] w w1 := K1
 subst f
 exact ⟨rfl, ⟨n1, n, a7 >>> o, x9⟩, sbq, ⟨hm, K_2⟩, Nat.lt_succ_self _⟩
theorem Qs4 {p0 r} (hm : Qgl p0 = some r) {w : World} :
    Calls Tryz.prog 179 [.agg (Qei.cs p0).toArray].toArray w fun e w' => ∃ v, e = .returned v ∧ (v = .int .i64 r ∧ Gr w w') := by
 unfold Qgl at hm
 refine Qa5 44 Tryz.func179 rfl rfl rfl<|qs 2 rfl<|qe rfl (Qaq (cs := Qei.cs p0) rfl rfl) ?_
 rintro _ w1 ⟨b1, rfl, l, g, G1⟩
 refine qm rfl<|Qa1<|Qa3 ?_
 have X3 := ((Gr.refl w).trans G1)
 refine qj (β := Bool) (rg 3 41) (fun a1 => [(43, .bool a1)]) (fun a1 wr => (Qcg a1 = some r) ∧ Kz [] w1 wr) ?_ ?_
 · refine qg 41 rfl<|qv rfl (Qa0 Qqg rfl)<|qv rfl (Qa2 (v := wv p0.P) Qb5 rfl g rfl) ?_
   obtain ⟨x2, h, hm⟩ := bnd hm
   refine qe rfl (eC Xm6 rfl (Qre h)) ?_
   rintro _ w3 ⟨rfl, G3⟩
   refine qv rfl (Qci rfl)<|qp rfl (Qac rfl) (fun c2 => ?_) (fun c2 => ?_)
   · replace hm := Qc8 c2 hm
     refine qk rfl<|qk rfl<|qk rfl<|qk rfl<|qm rfl<|qm rfl<|qk rfl ?_
     refine qk rfl<|qk rfl<|qk rfl<|qk rfl<|qk rfl<|qk rfl<|qm rfl ?_
     refine qm rfl<|qk rfl<|qk rfl<|qk rfl<|qm rfl<|qm rfl<|qk rfl ?_
     refine qk rfl<|qk rfl<|qk rfl<|qk rfl<|qm rfl<|qm rfl<|qk rfl ?_
     refine qk rfl<|qk rfl<|qk rfl<|qk rfl<|qk rfl<|qk rfl<|qk rfl ?_
     refine qm rfl<|Qa9 ?_
     exact ⟨rfl, true, sbq, hm, (kz0.gr G3)⟩
   replace hm := Qc7 c2 hm
   refine qv rfl (Qa0 Qmo rfl) ?_
   have B9 := (g.gr G3)
   refine qv rfl (Qa2 (v := wv p0.Q) Qb5 rfl B9 rfl) ?_
   obtain ⟨x3, i, hm⟩ := bnd hm
   refine qe rfl (eC Xm6 rfl (Qre i)) ?_
   rintro _ w4 ⟨rfl, G4⟩
   refine qv rfl (Qci rfl)<|qm rfl<|qp rfl (Qac rfl) (fun c3 => ?_) (fun c3 => ?_)
   · replace hm := Qc8 c3 hm
     refine qk rfl<|qk rfl<|qk rfl<|qk rfl<|qk rfl<|qk rfl<|qk rfl ?_
     refine qm rfl<|qm rfl<|qk rfl<|qk rfl<|qk rfl<|qm rfl<|qm rfl ?_
     refine qk rfl<|qk rfl<|qk rfl<|qk rfl<|qk rfl<|qm rfl<|qm rfl ?_
     refine qk rfl<|qk rfl<|qk rfl<|qk rfl<|qk rfl<|qk rfl<|qk rfl ?_
     refine qk rfl<|qm rfl<|Qa9 ?_
     have Y1 := Gr.trans G3 G4
     exact ⟨rfl, true, sbq, hm, (kz0.gr Y1)⟩
   replace hm := Qc7 c3 hm
   refine qv rfl (Qa0 Qqg rfl) ?_
   have f := (B9.gr G4)
   refine qv rfl (Qa2 (v := wv p0.P) Qb5 rfl f rfl)<|qv rfl (Qyx (a := p0.P) (b := 1#64) rfl rfl)<|qv rfl (Qa0 Qmo rfl)<|qv rfl (Qa2 (v := wv p0.Q) Qb5 rfl f rfl) ?_
   obtain ⟨x4, j, hm⟩ := bnd hm
   refine qv rfl (Qle (c := p0.P - 1#64) (d := p0.Q) rfl rfl j)<|qv rfl (Qz1 (c := x4) (d := 0#64) rfl rfl)<|qm rfl<|qp rfl (Qac rfl) (fun c4 => ?_) (fun c4 => ?_)
   · replace hm := iT c4 hm
     refine qk rfl<|qk rfl<|qk rfl<|qm rfl<|qm rfl<|qk rfl<|qk rfl ?_
     refine qk rfl<|qk rfl<|qk rfl<|qm rfl<|qm rfl<|qk rfl<|qk rfl ?_
     refine qk rfl<|qk rfl<|qk rfl<|qk rfl<|qk rfl<|qk rfl<|qm rfl ?_
     refine Qa9 ?_
     have Y2 := Gr.trans G3 G4
     exact ⟨rfl, true, sbq, hm, (kz0.gr Y2)⟩
   replace hm := iF c4 hm
   refine qv rfl (Qa0 Qyj rfl)<|qv rfl (Qa2 (v := wv p0.G) Qb5 rfl f rfl)<|qv rfl (Qs5 (c := p0.G) (d := 2#64) rfl rfl)<|qm rfl<|qp rfl (Qac rfl) (fun c5 => ?_) (fun c5 => ?_)
   · replace hm := iT c5 hm
     refine qk rfl<|qk rfl<|qk rfl<|qk rfl<|qk rfl<|qm rfl<|qm rfl ?_
     refine qk rfl<|qk rfl<|qk rfl<|qk rfl<|qk rfl<|qk rfl<|qk rfl ?_
     refine qk rfl<|qm rfl<|Qa9 ?_
     have Y3 := Gr.trans G3 G4
     exact ⟨rfl, true, sbq, hm, (kz0.gr Y3)⟩
   replace hm := iF c5 hm
   refine qv rfl (Qa0 Qyj rfl)<|qv rfl (Qa2 (v := wv p0.G) Qb5 rfl f rfl)<|qv rfl (Qa0 Qqg rfl)<|qv rfl (Qa2 (v := wv p0.P) Qb5 rfl f rfl)<|qv rfl (Qvb (c := p0.G) (d := p0.P) rfl rfl)<|qm rfl<|qp rfl (Qac rfl) (fun c6 => ?_) (fun c6 => ?_)
   · replace hm := iT c6 hm
     refine qk rfl<|qk rfl<|qk rfl<|qk rfl<|qk rfl<|qk rfl<|qk rfl ?_
     refine qk rfl<|qm rfl<|Qa9 ?_
     have Y4 := Gr.trans G3 G4
     exact ⟨rfl, true, sbq, hm, (kz0.gr Y4)⟩
   replace hm := iF c6 hm
   refine qv rfl (Qa0 Qyj rfl)<|qv rfl (Qa2 (v := wv p0.G) Qb5 rfl f rfl)<|qv rfl (Qa0 Qmo rfl)<|qv rfl (Qa2 (v := wv p0.Q) Qb5 rfl f rfl)<|qv rfl (Qa0 Qqg rfl)<|qv rfl (Qa2 (v := wv p0.P) Qb5 rfl f rfl) ?_
   obtain ⟨x5, k, hm⟩ := bnd hm
   refine qe rfl (eC Xm9 rfl (Qrh k)) ?_
   rintro _ w5 ⟨rfl, G5⟩
   refine qv rfl (Qz1 (c := x5) (d := 1#64) rfl rfl)<|qm rfl<|Qa9 ?_
   exact ⟨rfl, (decide (x5 ≠ 1#64)), sbq, hm, (((kz0.gr G3).gr G4).gr G5)⟩
 clear hm; rintro a1 w2 ⟨hm, K2⟩
 unfold Qcg at hm
 refine Qam rfl (fun c1 => ?_) (fun c1 => ?_)
 · replace hm := Qc8 c1 hm
   refine qs 1 rfl<|qm rfl<|qb ?_
   have X5 := (X3.kz K2)
   cases hm
   refine ⟨_, _, rfl, Qb1 rfl (Qab rfl), ?_⟩
   exact ⟨rfl, X5⟩
 replace hm := Qc7 c1 hm
 refine qu<|qs 1 rfl<|qm rfl<|Qa1<|Qag ?_
 have X6 := (X3.kz K2)
 cases hm
 refine ⟨_, _, rfl, Qb1 rfl (Qab rfl), ?_⟩
 exact ⟨rfl, X6⟩
theorem Qnb {p0 r} (hm : Qd8 p0 = some r) {w : World} :
    Calls Tryz.prog 98 [.agg (Qa7.cs p0).toArray].toArray w fun e w' => ∃ v, e = .returned v ∧ (v = .bool r ∧ Gr w w') := by
 unfold Qd8 at hm
 refine Qa5 45 Tryz.func98 rfl rfl rfl<|qs 2 rfl<|qe rfl (Qaq (cs := Qa7.cs p0) rfl rfl) ?_
 rintro _ w1 ⟨b1, rfl, l, f, G1⟩
 refine qm rfl<|Qa1<|Qa3<|dw [([])] [] (.leaf [(0,10),(1,10),(2,10),(3,10),(4,10),(5,10),(6,10),(7,10),(8,10),(9,10),(10,10),(11,10),(12,10),(13,10),(14,10),(15,10),(16,10),(17,10),(18,10),(19,10),(20,10),(21,10),(22,10),(23,10),(24,10),(25,10),(26,0),(27,10),(28,10),(29,10),(30,10),(31,10),(32,10),(33,10),(34,10),(35,10),(36,10),(37,10),(38,10),(39,10),(40,10),(41,10),(42,10)]) ?_
 intro w2 G2 m
 refine Qal<|dh 0 rfl rfl (fun w hS => Qa0 Qi3 rfl) ?_
 have B3 := (f.gr G2)
 refine dh 0 rfl rfl (fun w hS => Qa2 (v := bv p0.Kind) Qcu rfl (Bx.kp B3 hS) rfl)<|dh 0 rfl rfl (fun w hS => Qj9 (p := p0.Kind) (q := 4#8) rfl rfl)<|qqF 0 rfl rfl (Kp.refl ([]) w2) (fun w hS => Qac rfl) (fun c1 => ?_) (fun c1 => ?_)
 · replace hm := iF c1 hm
   refine dx 0 rfl rfl<|dx 0 rfl rfl<|dx 0 rfl rfl<|dm 0 rfl rfl<|dm 0 rfl rfl<|dx 0 rfl rfl<|dx 0 rfl rfl ?_
   refine dx 0 rfl rfl<|dm 0 rfl rfl<|dm 0 rfl rfl<|dx 0 rfl rfl<|dx 0 rfl rfl<|dx 0 rfl rfl<|dm 0 rfl rfl ?_
   refine dm 0 rfl rfl<|dx 0 rfl rfl<|dx 0 rfl rfl<|dx 0 rfl rfl<|dm 0 rfl rfl<|dm 0 rfl rfl<|dx 0 rfl rfl ?_
   refine dx 0 rfl rfl<|qy rfl<|dx 0 rfl rfl<|dm 0 rfl rfl<|dm 0 rfl rfl<|dx 0 rfl rfl<|dx 0 rfl rfl ?_
   refine dx 0 rfl rfl<|dx 0 rfl rfl<|dx 0 rfl rfl<|dx 0 rfl rfl<|dx 0 rfl rfl<|dx 0 rfl rfl<|dx 0 rfl rfl ?_
   refine dx 0 rfl rfl<|dx 0 rfl rfl<|dm 0 rfl rfl<|dm 0 rfl rfl<|Qa1<|Qag ?_
   have Y1 := Gr.trans G1 G2
   have g := ((Gr.refl w).trans Y1)
   cases hm
   refine ⟨_, _, rfl, Qb1 rfl (Qab rfl), ?_⟩
   exact ⟨rfl, g⟩
 replace hm := iT c1 hm
 refine dh 0 rfl rfl (fun w hS => Qa0 Qmr rfl)<|dh 0 rfl rfl (fun w hS => Qa2 (v := .int .i64 p0.Depth) Qaw rfl (Bx.kp B3 hS) rfl)<|dh 0 rfl rfl (fun w hS => Qee (a := p0.Depth) (b := 0) rfl rfl)<|dm 0 rfl rfl<|qqF 0 rfl rfl (Kp.refl ([]) w2) (fun w hS => Qac rfl) (fun c2 => ?_) (fun c2 => ?_)
 · replace hm := iF c2 hm
   refine dx 0 rfl rfl<|dx 0 rfl rfl<|dx 0 rfl rfl<|dm 0 rfl rfl<|dm 0 rfl rfl<|dx 0 rfl rfl<|dx 0 rfl rfl ?_
   refine dx 0 rfl rfl<|dm 0 rfl rfl<|dm 0 rfl rfl<|dx 0 rfl rfl<|dx 0 rfl rfl<|dx 0 rfl rfl<|dm 0 rfl rfl ?_
   refine dm 0 rfl rfl<|dx 0 rfl rfl<|dx 0 rfl rfl<|qy rfl<|dx 0 rfl rfl<|dm 0 rfl rfl<|dm 0 rfl rfl ?_
   refine dx 0 rfl rfl<|dx 0 rfl rfl<|dx 0 rfl rfl<|dx 0 rfl rfl<|dx 0 rfl rfl<|dx 0 rfl rfl<|dx 0 rfl rfl ?_
   refine dx 0 rfl rfl<|dx 0 rfl rfl<|dx 0 rfl rfl<|dx 0 rfl rfl<|dm 0 rfl rfl<|dm 0 rfl rfl<|Qa1 ?_
   refine Qag ?_
   have Y2 := Gr.trans G1 G2
   have h := ((Gr.refl w).trans Y2)
   cases hm
   refine ⟨_, _, rfl, Qb1 rfl (Qab rfl), ?_⟩
   exact ⟨rfl, h⟩
 replace hm := iT c2 hm
 refine dh 0 rfl rfl (fun w hS => Qa0 Qmr rfl)<|dh 0 rfl rfl (fun w hS => Qa2 (v := .int .i64 p0.Depth) Qaw rfl (Bx.kp B3 hS) rfl)<|dh 0 rfl rfl (fun w hS => Qo8 (a := p0.Depth) (b := 6) rfl rfl)<|dm 0 rfl rfl<|qqF 0 rfl rfl (Kp.refl ([]) w2) (fun w hS => Qac rfl) (fun c3 => ?_) (fun c3 => ?_)
 · replace hm := iF c3 hm
   refine dx 0 rfl rfl<|dx 0 rfl rfl<|dx 0 rfl rfl<|dm 0 rfl rfl<|dm 0 rfl rfl<|dx 0 rfl rfl<|dx 0 rfl rfl ?_
   refine dx 0 rfl rfl<|dm 0 rfl rfl<|dm 0 rfl rfl<|dx 0 rfl rfl<|dx 0 rfl rfl<|qy rfl<|dx 0 rfl rfl ?_
   refine dm 0 rfl rfl<|dm 0 rfl rfl<|dx 0 rfl rfl<|dx 0 rfl rfl<|dx 0 rfl rfl<|dx 0 rfl rfl<|dx 0 rfl rfl ?_
   refine dx 0 rfl rfl<|dx 0 rfl rfl<|dx 0 rfl rfl<|dx 0 rfl rfl<|dx 0 rfl rfl<|dx 0 rfl rfl<|dm 0 rfl rfl ?_
   refine dm 0 rfl rfl<|Qa1<|Qag ?_
   have Y3 := Gr.trans G1 G2
   have i := ((Gr.refl w).trans Y3)
   cases hm
   refine ⟨_, _, rfl, Qb1 rfl (Qab rfl), ?_⟩
   exact ⟨rfl, i⟩
 replace hm := iT c3 hm
 refine dh 0 rfl rfl (fun w hS => Qa0 Qs0 rfl)<|dh 0 rfl rfl (fun w hS => Qa2 (v := .int .i64 p0.Degree) Qaw rfl (Bx.kp B3 hS) rfl)<|dh 0 rfl rfl (fun w hS => Qee (a := p0.Degree) (b := 1) rfl rfl)<|dm 0 rfl rfl<|qqF 0 rfl rfl (Kp.refl ([]) w2) (fun w hS => Qac rfl) (fun c4 => ?_) (fun c4 => ?_)
 · replace hm := iF c4 hm
   refine dx 0 rfl rfl<|dx 0 rfl rfl<|dx 0 rfl rfl<|dm 0 rfl rfl<|dm 0 rfl rfl<|dx 0 rfl rfl<|dx 0 rfl rfl ?_
   refine qy rfl<|dx 0 rfl rfl<|dm 0 rfl rfl<|dm 0 rfl rfl<|dx 0 rfl rfl<|dx 0 rfl rfl<|dx 0 rfl rfl ?_
   refine dx 0 rfl rfl<|dx 0 rfl rfl<|dx 0 rfl rfl<|dx 0 rfl rfl<|dx 0 rfl rfl<|dx 0 rfl rfl<|dx 0 rfl rfl ?_
   refine dx 0 rfl rfl<|dm 0 rfl rfl<|dm 0 rfl rfl<|Qa1<|Qag ?_
   have Y4 := Gr.trans G1 G2
   have X9 := ((Gr.refl w).trans Y4)
   cases hm
   refine ⟨_, _, rfl, Qb1 rfl (Qab rfl), ?_⟩
   exact ⟨rfl, X9⟩
 replace hm := iT c4 hm
 refine dh 0 rfl rfl (fun w hS => Qa0 Qs0 rfl)<|dh 0 rfl rfl (fun w hS => Qa2 (v := .int .i64 p0.Degree) Qaw rfl (Bx.kp B3 hS) rfl)<|dh 0 rfl rfl (fun w hS => Qo8 (a := p0.Degree) (b := 8) rfl rfl)<|dm 0 rfl rfl<|qqF 0 rfl rfl (Kp.refl ([]) w2) (fun w hS => Qac rfl) (fun c5 => ?_) (fun c5 => ?_)
 · replace hm := iF c5 hm
   refine dx 0 rfl rfl<|dx 0 rfl rfl<|qy rfl<|dx 0 rfl rfl<|dm 0 rfl rfl<|dm 0 rfl rfl<|dx 0 rfl rfl ?_
   refine dx 0 rfl rfl<|dx 0 rfl rfl<|dx 0 rfl rfl<|dx 0 rfl rfl<|dx 0 rfl rfl<|dx 0 rfl rfl<|dx 0 rfl rfl ?_
   refine dx 0 rfl rfl<|dx 0 rfl rfl<|dx 0 rfl rfl<|dm 0 rfl rfl<|dm 0 rfl rfl<|Qa1<|Qag ?_
   have Y5 := Gr.trans G1 G2
   have X8 := ((Gr.refl w).trans Y5)
   cases hm
   refine ⟨_, _, rfl, Qb1 rfl (Qab rfl), ?_⟩
   exact ⟨rfl, X8⟩
 replace hm := iT c5 hm
 refine dh 0 rfl rfl (fun w hS => Qa0 Qk5 rfl)<|dh 0 rfl rfl (fun w hS => Qb6 (vs := Qei.cs p0.Group) Xgf rfl (Bx.kp B3 hS) rfl rfl) ?_
 obtain ⟨x1, j, hm⟩ := bnd hm
 refine qz [] rfl (eC Xqc rfl (Qs4 j)) ⟨fun _ => tk0, trivial⟩ ?_
 rintro _ w3 ⟨rfl, G3⟩
 refine kG G3 ?_
 have S5 := ((Kp.refl ([]) w2).gr G3)
 refine qh 0 rfl rfl S5 (fun w hS => Qeh (a := x1) (b := 0) rfl rfl)<|dn 0 rfl rfl S5<|qqF 0 rfl rfl S5 (fun w hS => Qac rfl) (fun c6 => ?_) (fun c6 => ?_)
 · replace hm := iF c6 hm
   refine qx 0 rfl rfl S5<|qx 0 rfl rfl S5<|qx 0 rfl rfl S5<|qx 0 rfl rfl S5<|qx 0 rfl rfl S5<|qx 0 rfl rfl S5<|qx 0 rfl rfl S5 ?_
   refine qx 0 rfl rfl S5<|qx 0 rfl rfl S5<|qx 0 rfl rfl S5<|qx 0 rfl rfl S5<|dn 0 rfl rfl S5<|dn 0 rfl rfl S5<|Qa1 ?_
   refine Qag ?_
   have X7 := ((((Gr.refl w).trans G1).trans G2).trans G3)
   cases hm
   refine ⟨_, _, rfl, Qb1 rfl (Qab rfl), ?_⟩
   exact ⟨rfl, X7⟩
 replace hm := iT c6 hm
 refine qh 0 rfl rfl S5 (fun w hS => Qa0 Qk5 rfl)<|qh 0 rfl rfl S5 (fun w hS => Qa0 Qmo rfl)<|qh 0 rfl rfl S5 (fun w hS => Qa2 (v := wv p0.Group.Q) Qb5 rfl (Bx.kp B3 hS) rfl)<|qh 0 rfl rfl S5 (fun w hS => Qa0 Qmr rfl)<|qh 0 rfl rfl S5 (fun w hS => Qa2 (v := .int .i64 p0.Depth) Qaw rfl (Bx.kp B3 hS) rfl) ?_
 obtain ⟨n2, hn2, hm⟩ := bnd hm
 refine qh 0 rfl rfl S5 (fun w hS => Qu1 (a := 1) (b := p0.Depth) rfl rfl hn2)<|qh 0 rfl rfl S5 (fun w hS => Qa0 Qs0 rfl)<|qh 0 rfl rfl S5 (fun w hS => Qa2 (v := .int .i64 p0.Degree) Qaw rfl (Bx.kp B3 hS) rfl)<|qh 0 rfl rfl S5 (fun w hS => Qce (k := .i64) (a := Qxk 1 n2) (b := p0.Degree) rfl rfl)<|qh 0 rfl rfl S5 (fun w hS => Qfe Qfp rfl)<|qh 0 rfl rfl S5 (fun w hS => Xca (c := p0.Group.Q) (d := wd (w64 ((Qxk 1 n2) + p0.Degree))) rfl rfl)<|dn 0 rfl rfl S5 ?_
 refine dn 0 rfl rfl S5<|Qa1<|Qag ?_
 have X6 := ((((Gr.refl w).trans G1).trans G2).trans G3)
 cases hm
 refine ⟨_, _, rfl, Qb1 rfl (Qab rfl), ?_⟩
 exact ⟨rfl, X6⟩
theorem Qn4 {p0 r} (hm : Qhi p0 = some r) {w : World} :
    Calls Tryz.prog 139 [.agg (Qa7.cs p0).toArray].toArray w fun e w' => ∃ v, e = .returned v ∧ (v = .int .i64 r ∧ Gr w w') := by
 unfold Qhi at hm
 refine Qa5 6 Tryz.func139 rfl rfl rfl<|qs 2 rfl<|qe rfl (Qaq (cs := Qa7.cs p0) rfl rfl) ?_
 rintro _ w1 ⟨b1, rfl, c, a, G1⟩
 refine qm rfl<|Qa1<|Qa3<|qs 3 rfl<|qv rfl (Qa4 Qcn rfl a rfl) ?_
 obtain ⟨x1, b, hm⟩ := bnd hm
 refine qe rfl (eC Xkz rfl (Qnb b)) ?_
 rintro _ w2 ⟨rfl, G2⟩
 refine qv rfl (Qci rfl)<|Qa1<|Qam rfl (fun c1 => ?_) (fun c1 => ?_)
 · replace hm := Qc8 c1 hm
   refine qs 1 rfl<|qm rfl<|qb ?_
   have X4 := (((Gr.refl w).trans G1).trans G2)
   cases hm
   refine ⟨_, _, rfl, Qb1 rfl (Qab rfl), ?_⟩
   exact ⟨rfl, X4⟩
 replace hm := Qc7 c1 hm
 refine qu<|qs 1 rfl<|qm rfl<|Qa1<|Qag ?_
 have X5 := (((Gr.refl w).trans G1).trans G2)
 cases hm
 refine ⟨_, _, rfl, Qb1 rfl (Qab rfl), ?_⟩
 exact ⟨rfl, X5⟩
theorem Quv {p0 r} (hm : Qhn p0 = some r) {w : World} :
    Calls Tryz.prog 175 [kv p0].toArray w fun e w' => ∃ v, e = .returned v ∧ (v = .agg (Qb0.cs r).toArray ∧ Gr w w') := by
 unfold Qhn at hm
 refine Qa5 29 Tryz.func175 rfl rfl rfl<|qs 2 rfl<|qe rfl (Qaq (cs := kb p0) rfl rfl) ?_
 rintro _ w1 ⟨b1, rfl, A, l, G1⟩
 have E := l.lt
 refine qe rfl (Qa8 (cs := Qb0.cs (Qb0.mk 0#64 0#64)) Qph rfl) ?_
 rintro _ w2 ⟨b2, rfl, B, m, G2⟩
 have F := m.lt
 refine qd 1 rfl<|qe rfl (Qa8 (cs := Qb0.cs (Qb0.mk 0#64 0#64)) Qph rfl) ?_
 rintro _ w3 ⟨b3, rfl, C, q, G3⟩
 refine Qa1<|Qa3<|qs 1 rfl<|qm rfl<|Qa1<|Qan ?_
 have X7 := ((((Gr.refl w).trans G1).trans G2).trans G3)
 refine Qbj (α := Nat × Int × BitVec 64 × BitVec 64) (rg 4 24) (fun ⟨n1, a4, a5, a6⟩ => [(5, .int .i64 a4)]) (fun ⟨n1, a4, a5, a6⟩ wr => (Qc3 (Qf6 p0) n1 (a4, a5, a6) = some r) ∧ Bx wr b3 233 (Qb0.cs (Qb0.mk a5 a6)) ∧ Kz [(1, b3)] w3 wr) (fun ⟨n1, a4, a5, a6⟩ => n1) ⟨Qcw, 0, 0#64, 0#64⟩ ?_ ?_ ?_
 · exact sbq
 · exact ⟨hm, q, Kz.refl _ _⟩
 clear hm; rintro ⟨n1, a4, a5, a6⟩ w4 ⟨hm, d, K4⟩
 have hb := Qbv hm; clear hm; obtain ⟨n1, rfl, hm⟩ := hb
 generalize g : Qc3 (Qf6 p0) n1 = D at hm
 unfold Qf6 at hm
 try dsimp only at hm
 refine qs 1 rfl<|qv rfl (Qcd (a := a4) (b := 8) rfl rfl)<|Qa1<|Qa3<|cnF rfl (fun c1 => ?_) (fun c1 => ?_)
 · replace hm := iF c1 hm
   refine Qbp<|Qb4<|Qb4<|Qbq<|Qaz<|qs 2 rfl ?_
   refine qv rfl (Qa4 Qfq rfl d rfl) ?_
   have s := ((m.gr G3).kz K4)
   refine qe rfl (Qaj Qfq rfl rfl rfl s rfl rfl) ?_
   rintro _ w8 ⟨t, M8⟩
   refine Qa1<|Qag ?_
   have u := ((X7.kz K4).md M8)
   cases hm
   refine ⟨_, _, rfl, Qb1 rfl (Qap Qfq rfl t rfl), ?_⟩
   exact ⟨rfl, u⟩
 replace hm := iT c1 hm
 refine qu<|Qa3<|Qan<|qs 2 rfl<|qm rfl ?_
 refine qm rfl<|Qa1<|dw [([b3]),([])] [(18, [1]),(20, [1])] (.leaf [(0,10),(1,11),(2,10),(3,10),(4,10),(5,10),(6,10),(7,10),(8,10),(9,11),(10,10),(11,10),(12,10),(13,10),(14,10),(15,10),(16,10),(17,10),(18,0),(19,10),(20,0)]) ?_
 intro w5 G5 G
 refine Qal<|dh 0 rfl rfl (fun w hS => Qa0 Qkx rfl) ?_
 have h := (d.gr G5)
 refine dh 1 rfl rfl (fun w hS => Qa2 (v := wv a5) Qb5 rfl (Bx.kp h hS) rfl) ?_
 obtain ⟨n7, hn7, hm⟩ := bnd hm
 refine dh 0 rfl rfl (fun w hS => Xco (c := a5) (b := (un 8#64)) rfl rfl hn7)<|dm 0 rfl rfl ?_
 obtain ⟨y8, n, hm⟩ := bnd hm
 refine dh 0 rfl rfl (fun w hS => Qum (i := a4) (p := p0) Tryz.underlying23 (Qcu).siz rfl rfl n) ?_
 have o := ((((l.gr G2).gr G3).kz K4).gr G5)
 refine dh 0 rfl rfl (fun w hS => Xap (off := 0) (p := p0) (i := a4) Qcu rfl (Bx.kp o hS) rfl n (by omega))<|dh 0 rfl rfl (fun w hS => Qw8 Qos rfl)<|dh 0 rfl rfl (fun w hS => Qve (a := a5 <<< n7) (b := y8.setWidth 64) rfl rfl)<|dh 0 rfl rfl (fun w hS => Qa0 Qk6 rfl)<|dh 1 rfl rfl (fun w hS => Qa2 (v := wv a6) Qb5 rfl (Bx.kp h hS) rfl) ?_
 obtain ⟨n9, hn9, hm⟩ := bnd hm
 refine dh 0 rfl rfl (fun w hS => Xco (c := a6) (b := (un 8#64)) rfl rfl hn9)<|dm 0 rfl rfl<|dh 0 rfl rfl (fun w hS => Qce (k := .i64) (a := 8) (b := a4) rfl rfl) ?_
 obtain ⟨j, f, hm⟩ := bnd hm
 refine dh 0 rfl rfl (fun w hS => Qum (i := w64 (8 + a4)) (p := p0) Tryz.underlying23 (Qcu).siz rfl rfl f)<|dh 0 rfl rfl (fun w hS => Xap (off := 0) (p := p0) (i := w64 (8 + a4)) Qcu rfl (Bx.kp o hS) rfl f (by omega))<|dh 0 rfl rfl (fun w hS => Qw8 Qos rfl)<|dh 0 rfl rfl (fun w hS => Qve (a := a6 <<< n9) (b := j.setWidth 64) rfl rfl)<|dh 0 rfl rfl (fun w hS => Qa0 Qkx rfl)<|qz [(1, b3)] rfl (Qe9 (cs' := Qb0.cs (Qb0.mk ((a5 <<< n7) ||| (y8.setWidth 64)) a6)) (Qb5).siz rfl rfl rfl h rfl rfl) ⟨fun _ => tk0, nofun, trivial⟩ ?_
 rintro _ w6 ⟨x, M6⟩
 refine kM M6 ?_
 have y := ((Kp.refl ([b3]) w5).md M6)
 refine qh 0 rfl rfl y (fun w hS => Qa0 Qk6 rfl)<|qz [(1, b3)] rfl (Qe9 (cs' := Qb0.cs (Qb0.mk ((a5 <<< n7) ||| (y8.setWidth 64)) ((a6 <<< n9) ||| (j.setWidth 64)))) (Qb5).siz rfl rfl rfl x rfl rfl) ⟨fun _ => tk0, nofun, trivial⟩ ?_
 rintro _ w7 ⟨z, M7⟩
 refine kM M7<|Qa9<|Qay<|Qaz<|qg 2 rfl<|qv rfl (Qce (k := .i64) (a := a4) (b := 1) rfl rfl)<|qm rfl ?_
 refine Qa9 ?_
 have K_15 : Kz [(1, b3)] w3 w7 := (((K4.gr G5).md M6).md M7)
 subst g
 exact ⟨rfl, ⟨n1, w64 (a4 + 1), (a5 <<< n7) ||| (y8.setWidth 64), (a6 <<< n9) ||| (j.setWidth 64)⟩, sbq, ⟨hm, z, K_15⟩, Nat.lt_succ_self _⟩
theorem Qq9 {p0 p1 p2 r} (hm : Qh3 p0 p1 p2 = some r) {w : World} :
    Calls Tryz.prog 100 [kv p0, wv p1, wv p2].toArray w fun e w' => ∃ v, e = .returned v ∧ (v = wv r ∧ Gr w w') := by
 unfold Qh3 at hm
 refine Qa5 16 Tryz.func100 rfl rfl rfl<|qs 2 rfl<|qe rfl (Qaq (cs := kb p0) rfl rfl) ?_
 rintro _ w1 ⟨b1, rfl, g, a, G1⟩
 refine qm rfl<|Qa1<|Qa3<|qs 2 rfl<|qm rfl<|qv rfl (Qtv (c := p2) (d := 0#64) rfl rfl) ?_
 refine Qa1<|Qam rfl (fun c1 => ?_) (fun c1 => ?_)
 · replace hm := iT c1 hm
   refine qs 1 rfl<|qm rfl<|qb ?_
   have X3 := ((Gr.refl w).trans G1)
   cases hm
   refine ⟨_, _, rfl, Qb1 rfl (Qab rfl), ?_⟩
   exact ⟨rfl, X3⟩
 replace hm := iF c1 hm
 refine qu<|qs 8 rfl<|qv rfl (Qa4 Qak rfl a rfl)<|qm rfl<|qe rfl (eC Qpe rfl (Qes p0 (un8 3#8) (Qiy _) (Qiw _) p1 _)) ?_
 rintro _ w2 ⟨rfl, G2⟩
 obtain ⟨x1, b, hm⟩ := bnd hm
 refine qe rfl (eC Qzs rfl (Quv b)) ?_
 rintro _ w3 ⟨rfl, G3⟩
 refine qv rfl (Xgd (v := wv x1.x) Xkg rfl rfl)<|qm rfl ?_
 obtain ⟨x2, f, hm⟩ := bnd hm
 refine qv rfl (Qle (c := x1.x) (d := p2) rfl rfl f)<|qm rfl<|Qa1<|Qag ?_
 have X6 := ((((Gr.refl w).trans G1).trans G2).trans G3)
 cases hm
 refine ⟨_, _, rfl, Qb1 rfl (Qab rfl), ?_⟩
 exact ⟨rfl, X6⟩
theorem Qif {p0 p1 r} (hm : Qi2 p0 p1 = some r) {w : World} :
    Calls Tryz.prog 99 [kv p0, .agg (Qa7.cs p1).toArray].toArray w fun e w' => ∃ v, e = .returned v ∧ (∃ ur0_s zr0_s gr0_s, v = ur0_s ∧ Own w' zr0_s gr0_s 24 1 ur0_s (r.map uwc) ∧ Hdn (zr0_s = 0 ∨ w.heap.size ≤ gr0_s) ∧ Gr w w') := by
 unfold Qi2 at hm
 refine Qa5 31 Tryz.func99 rfl rfl rfl<|qs 3 rfl<|qe rfl (Qaq (cs := kb p0) rfl rfl) ?_
 rintro _ w1 ⟨b1, rfl, H, n, G1⟩
 have z1 := G1.size
 have N := n.lt
 refine qe rfl (Qaq (cs := Qa7.cs p1) rfl rfl) ?_
 rintro _ w2 ⟨b2, rfl, I, o, G2⟩
 have O := o.lt
 refine qm rfl<|qd 4 rfl ?_
 have B5 := (n.gr G2)
 refine qv rfl (Qa4 Qak rfl B5 rfl)<|qe rfl (eC Qpe rfl (Qes p0 (un8 40#8) (Qiy _) (Qiw _) 0#64 _)) ?_
 rintro _ w3 ⟨rfl, G3⟩
 have z6 := G3.size
 refine qe rfl (Qa8 (cs := kb k0) Qeo rfl) ?_
 rintro _ w4 ⟨b4, rfl, J, p, G4⟩
 have P := p.lt
 refine qe rfl (Qaj Qak rfl rfl rfl p rfl rfl) ?_
 rintro _ w5 ⟨u, M5⟩
 have z9 := M5.size
 refine qd 5 rfl<|qv rfl (Qa0 Qs0 rfl) ?_
 have s := (((o.gr G3).gr G4).md M5)
 refine qv rfl (Qa2 (v := .int .i64 p1.Degree) Qaw rfl s rfl)<|qv rfl (Qce (k := .i64) (a := p1.Degree) (b := 1) rfl rfl) ?_
 obtain ⟨l1, y, hm⟩ := bnd hm
 refine qe rfl (Xle (c := uwc) (a := 0#64) Xn4 Xj3 rfl ⟨rfl, rfl⟩ rfl y (by decide)) ?_
 rintro z w6 ⟨d, K, t, G6⟩
 have R := G6.size
 refine qm rfl<|Qa1<|Qa3<|qs 3 rfl<|qm rfl<|qv rfl (Qbi (l := l1) (c := uwc) Tryz.underlying161 rfl (Own.rd t)) ?_
 refine qm rfl<|Qa1<|Qan ?_
 have B := (((((((Gr.refl w).trans G1).trans G2).trans G3).trans G4).md M5).trans G6)
 refine Qbj (α := Nat × List (BitVec 64) × Int × Value × Nat × Nat) ([6, 7] ++ rg 16 14) (fun ⟨n1, a5, a7, vy6, zy6, gy6⟩ => [(6, vy6), (16, .int .i64 a7)]) (fun ⟨n1, a5, a7, vy6, zy6, gy6⟩ wr => (Qc3 (Qhk p0 p1 l1) n1 (a5, a7) = some r) ∧ Own wr zy6 gy6 24 1 vy6 (a5.map uwc) ∧ Hdn (zy6 = 0 ∨ (gy6 = d ∧ 1 ≠ 0) ∨ w6.heap.size ≤ gy6) ∧ Kz [(1, d)] w6 wr) (fun ⟨n1, a5, a7, vy6, zy6, gy6⟩ => n1) ⟨Qcw, l1, 0, z, 1, d⟩ ?_ ?_ ?_
 · exact sbq
 · exact ⟨hm, t, ⟨tk0⟩, Kz.refl _ _⟩
 clear hm; rintro ⟨n1, a5, a7, vy6, zy6, gy6⟩ w7 ⟨hm, g, f, K7⟩
 have hb := Qbv hm; clear hm; obtain ⟨n1, rfl, hm⟩ := hb
 generalize h : Qc3 (Qhk p0 p1 l1) n1 = L at hm
 unfold Qhk at hm
 try dsimp only at hm
 refine qs 1 rfl<|qv rfl (Qcd (a := a7) (b := (l1.length : Int)) rfl rfl)<|Qa1<|Qa3<|cnF rfl (fun c1 => ?_) (fun c1 => ?_)
 · replace hm := iF c1 hm
   refine Qbp<|Qb4<|Qb4<|Qbq<|Qaz<|qs 2 rfl ?_
   refine qm rfl<|qm rfl<|Qa1<|Qag ?_
   have C := (B.kz K7 (tk1 ((.inr tk0) : 1 = 0 ∨ w.heap.size ≤ d)))
   cases hm
   refine ⟨_, _, rfl, Qb1 rfl (Qab rfl), ?_⟩
   exact ⟨vy6, zy6, gy6, rfl, g, ⟨(Qd3 (A := (fun x => w.heap.size ≤ x)) f (.inr tk0))⟩, C⟩
 replace hm := iT c1 hm
 refine qu<|Qa3<|Qan<|qs 2 rfl<|qm rfl ?_
 refine qm rfl<|Qa1<|qg 11 rfl<|qm rfl<|qm rfl ?_
 have D := ((u.gr G6).kz K7 (tk1 ((.inr tk0) : 1 = 0 ∨ d ≠ b4)))
 refine qv rfl (Qa4 Qak rfl D rfl)<|qm rfl<|qv rfl (Qfe Qfp rfl)<|qv rfl (Qa0 Qk5 rfl)<|qv rfl (Qa0 Qmo rfl) ?_
 have E := ((s.gr G6).kz K7 (tk1 ((.inr tk0) : 1 = 0 ∨ d ≠ b2)))
 refine qv rfl (Qa2 (v := wv p1.Group.Q) Qb5 rfl E rfl) ?_
 obtain ⟨x8, F, hm⟩ := bnd hm
 refine qe rfl (eC Xli rfl (Qq9 F)) ?_
 rintro _ w8 ⟨rfl, G8⟩
 obtain ⟨y9, j, hm⟩ := bnd hm
 have m := (g.gr G8)
 refine qv rfl (Qf7 (i := a7) Tryz.underlying161 (Qb5).siz rfl (Own.rd m) rfl j) ?_
 have M := Own.z1 m j
 refine qe rfl (Xhs (i := a7) (q := 0) (a' := x8) (vs := [wv x8]) (c := uwc) (Qb5).siz rfl rfl rfl rfl rfl m j (by first | rfl | omega) rfl rfl ⟨rfl, rfl⟩) ?_
 rintro _ w9 ⟨G, M9⟩
 refine Qa9<|Qay<|Qaz<|qg 2 rfl<|qv rfl (Qce (k := .i64) (a := a7) (b := 1) rfl rfl)<|qm rfl<|Qa9 ?_
 have K_22 : Kz [(1, d)] w6 w9 := ((K7.gr G8).md M9 (tk1 (Qd3 (A := (fun x => (x = d ∧ 1 ≠ 0) ∨ w6.heap.size ≤ x)) f tk0)))
 subst h
 exact ⟨rfl, ⟨n1, a5.set a7.toNat x8, w64 (a7 + 1), vy6, zy6, gy6⟩, sbq, ⟨hm, G, ⟨(Qd3 (A := (fun x => (x = d ∧ 1 ≠ 0) ∨ w6.heap.size ≤ x)) f tk0)⟩, K_22⟩, Nat.lt_succ_self _⟩
theorem Qpw {p0 vp0 zp0 gp0 op0 r} (hm : Qgh p0 = some r) {w : World} (a : Rd w zp0 gp0 op0 1 vp0 (p0.map uwc)) :
    Calls Tryz.prog 181 [vp0].toArray w fun e w' => ∃ v, e = .returned v ∧ (∃ bc0 uc0_s zc0_s gc0_s oc0_s, v = .func (.func 237) #[] [.pointer (some ⟨bc0, 0, none⟩)].toArray ∧ Bx w' bc0 161 ([uc0_s]) ∧ (w.heap.size ≤ bc0) ∧ Rd w' zc0_s gc0_s oc0_s 1 uc0_s (r.map uwc) ∧ Hdn (zc0_s = 0 ∨ (gc0_s = gp0 ∧ zp0 ≠ 0) ∨ w.heap.size ≤ gc0_s) ∧ Gr w w') := by
 unfold Qgh at hm
 refine Qa5 4 Tryz.func181 rfl rfl rfl<|qs 2 rfl<|qe rfl (Qaq (cs := [vp0]) rfl (Xpo (Rd.oneB a))) ?_
 rintro _ w1 ⟨b1, rfl, c, b, G1⟩
 refine qm rfl<|qd 2 rfl<|qv rfl (Qfb rfl rfl)<|qm rfl<|Qa1 ?_
 refine Qag ?_
 have B4 := (a.gr G1)
 have X5 := ((Gr.refl w).trans G1)
 cases hm
 refine ⟨_, _, rfl, Qb1 rfl (Qab rfl), ?_⟩
 exact ⟨b1, vp0, zp0, gp0, op0, rfl, b, by omega, B4, ⟨tk0⟩, X5⟩
theorem Qnt (p1 : List (BitVec 64)) (bp1 : Nat) (vp1_0 : Value) (zp1_0 gp1_0 op1_0 : Nat) (xs : List (Int × BitVec 64)) (hm : Qfl p1 = some xs) (w0 : World) (hbp1 : Bx w0 bp1 161 ([vp1_0])) (m : Rd w0 zp1_0 gp1_0 op1_0 1 vp1_0 (p1.map uwc)) :
    IT Tryz.prog 237 [.pointer (some ⟨bp1, 0, none⟩)] (xs.map (fun (x : Int × BitVec 64) => ([.int .i64 x.1, wv x.2] : List Value))) (zf zp1_0 gp1_0 ++ [bp1]) w0 := by
 intro l J Jx w fp hG hJ hJx hcap h0 hY
 have c1 := Rd.gr m hG
 have E := c1.lth
 have y : zp1_0 = 0 ∨ gp1_0 ∉ fp := by by_cases hz : zp1_0 = 0; exact .inl hz; exact .inr (hcap _ (by simp [Qc5, hz]))
 have c4 := Bx.gr hbp1 hG
 have F := c4.lt
 have z : bp1 ∉ fp := hcap _ (by simp)
 have hd := Xtd xs
 unfold Qfl at hm
 refine Qa5 19 Tryz.func237 rfl rfl rfl<|qs 4 rfl<|qv rfl (Qa2 (v := vp1_0) Qow rfl c4 rfl)<|qv rfl (Qbi (l := p1) (c := uwc) Tryz.underlying161 rfl c1)<|qv rfl (Qi7 (k := .i64) (a := (p1.length : Int)) (b := 1) rfl rfl)<|qm rfl ?_
 refine Qa1<|Qan<|Qbj (α := Nat × Int × Nat × List Nat × List (Int × BitVec 64)) ([3] ++ rg 7 12) (fun ⟨n1, a2, kk, fpl, rl⟩ => [(3, .int .i64 a2)]) (fun ⟨n1, a2, kk, fpl, rl⟩ wr => (Qc3 (Qc9 p1) n1 a2 = some rl) ∧ Dr xs kk rl ∧ J kk fpl wr ∧ (∀ c ∈ fpl, c ∈ fp ∨ w.heap.size ≤ c) ∧ Kp fp w wr ∧ Rd wr zp1_0 gp1_0 op1_0 1 vp1_0 (p1.map uwc) ∧ Bx wr bp1 161 ([vp1_0]) ∧ (zp1_0 = 0 ∨ gp1_0 ∉ fpl) ∧ bp1 ∉ fpl ∧ True) (fun ⟨n1, a2, kk, fpl, rl⟩ => n1) ⟨Qcw, w64 ((p1.length : Int) - 1), 0, fp, xs⟩ ?_ ?_ ?_
 · exact sbq
 · exact ⟨hm, hd, h0, (fun c hc => Or.inl hc), (Kp.refl fp w), c1, c4, y, z, trivial⟩
 clear hm; rintro ⟨n1, a2, n, fpl1, rl1⟩ w1 ⟨hm, dl1, JLw1, sl1, KLw1, d, e, g, h, -⟩
 have z7 := KLw1.size
 have A := d.lth
 have G := e.lt
 have hb := Qbv hm; clear hm; obtain ⟨n1, rfl, hm⟩ := hb
 generalize p : Qc3 (Qc9 p1) n1 = D at hm
 unfold Qc9 at hm
 try dsimp only at hm
 refine Qa3<|qs 2 rfl<|qm rfl<|qv rfl (Qee (a := a2) (b := 0) rfl rfl)<|Qa1<|cnF rfl (fun c1 => ?_) (fun c1 => ?_)
 · replace hm := iF c1 hm
   refine Qbp<|Qb4<|Qb4<|Qbq ?_
   have he := Option.some.inj hm
   have hl := Dr.last (c := (fun (x : Int × BitVec 64) => ([.int .i64 x.1, wv x.2] : List Value))) dl1 he.symm
   refine ⟨_, _, rfl, Qh6 rfl, KLw1, .inl ⟨_, sl1, ?_⟩⟩
   rw [← hl]; exact JLw1
 replace hm := iT c1 hm
 refine qu<|Qa3<|Qan<|qs 8 rfl<|qm rfl ?_
 refine qm rfl<|qv rfl (Qa2 (v := vp1_0) Qow rfl e rfl)<|qm rfl ?_
 obtain ⟨y3, r, hm⟩ := bnd hm
 refine qv rfl (Qf7 (i := a2) Tryz.underlying161 (Qb5).siz rfl d rfl r)<|qv rfl (Qk9 (q := 0) (u := wv y3) Qb5 rfl d r (by first | rfl | omega) rfl) ?_
 obtain ⟨rr10, hm, he10⟩ := Qvc hm
 have j := Dr.at dl1 he10
 have hd10 := Dr.next dl1 he10
 refine qe rfl (Qqq rfl rfl (hY _ _ _ _ (Xij j) JLw1 KLw1 sl1)) ?_
 rintro _ w2 ⟨bb, rfl, KF10, f, hg10, hJb⟩
 have H := KF10.size
 have sub10 : ∀ c ∈ f, c ∈ fp ∨ w.heap.size ≤ c := Qkz sl1 hg10 (by omega)
 have s := Xc5 hg10 g (by have := A.o; omega)
 have t := Qb7 hg10 h (by omega)
 cases bb
 · have Jy10 : Jx (n + 1) f w2 := hJb
   refine qv rfl (Qci rfl)<|Qa1<|Qjs rfl<|Qag<|Qbo<|Qb2<|Qb2 ?_
   refine Qbo ?_
   have KI14 : Kp fp w w2 := (KLw1.trans KF10 sl1)
   exact ⟨_, _, rfl, Qh6 rfl, KI14, .inr ⟨_, _, sub10, (by rw [List.length_map]; exact (List.getElem?_eq_some_iff.1 j).1), Jy10⟩⟩
 have Jy10 : J (n + 1) f w2 := hJb
 refine qv rfl (Qci rfl)<|Qa1<|Qkv rfl<|Qc4<|Qay<|Qaz<|qg 3 rfl ?_
 refine qm rfl<|qv rfl (Qi7 (k := .i64) (a := a2) (b := 1) rfl rfl)<|qm rfl<|Qa9 ?_
 have KI15 : Kp fp w w2 := (KLw1.trans KF10 sl1)
 have B := (Rd.kp d KF10 g)
 have C := (Bx.kp e KF10 h)
 subst p
 exact ⟨rfl, ⟨n1, w64 (a2 - 1), (n + 1), f, rr10⟩, sbq, ⟨hm, hd10, Jy10, sub10, KI15, B, C, s, t, trivial⟩, Nat.lt_succ_self _⟩
theorem Qhb {p0 p1 vp1 zp1 gp1 op1 r} (hm : Qdl p0 p1 = some r) {w : World} (g : Rd w zp1 gp1 op1 1 vp1 (p1.map uwc)) :
    Calls Tryz.prog 108 [wv p0, vp1].toArray w fun e w' => ∃ v, e = .returned v ∧ (v = wv r ∧ Gr w w') := by
 unfold Qdl at hm
 refine Qa5 21 Tryz.func108 rfl rfl rfl<|qs 1 rfl<|qm rfl<|qd 1 rfl ?_
 refine qm rfl<|Qa1<|Qa3<|qs 3 rfl<|qm rfl<|qv rfl (Qbi (l := p1) (c := uwc) Tryz.underlying160 rfl g) ?_
 refine qm rfl<|Qa1<|Qan<|Qbj (α := Nat × BitVec 64 × Int) ([5, 7] ++ rg 10 10) (fun ⟨n1, a3, a4⟩ => [(5, wv a3), (10, .int .i64 a4)]) (fun ⟨n1, a3, a4⟩ wr => (Qc3 (Qe2 p0 p1) n1 (a3, a4) = some r) ∧ Kz [] w wr) (fun ⟨n1, a3, a4⟩ => n1) ⟨Qcw, 1#64, 0⟩ ?_ ?_ ?_
 · exact sbq
 · exact ⟨hm, Kz.refl _ _⟩
 clear hm; rintro ⟨n1, a3, a4⟩ w1 ⟨hm, K1⟩
 have hb := Qbv hm; clear hm; obtain ⟨n1, rfl, hm⟩ := hb
 generalize f : Qc3 (Qe2 p0 p1) n1 = m at hm
 unfold Qe2 at hm
 try dsimp only at hm
 refine qs 1 rfl<|qv rfl (Qcd (a := a4) (b := (p1.length : Int)) rfl rfl)<|Qa1<|Qa3<|cnF rfl (fun c1 => ?_) (fun c1 => ?_)
 · replace hm := iF c1 hm
   refine Qbp<|Qb4<|Qb4<|Qbq<|Qaz<|qs 2 rfl ?_
   refine qm rfl<|qm rfl<|Qa1<|Qag ?_
   have X5 := ((Gr.refl w).kz K1)
   cases hm
   refine ⟨_, _, rfl, Qb1 rfl (Qab rfl), ?_⟩
   exact ⟨rfl, X5⟩
 replace hm := iT c1 hm
 refine qu<|Qa3<|Qan<|qs 3 rfl ?_
 obtain ⟨y5, h, hm⟩ := bnd hm
 have B3 := (g.kz K1)
 refine qv rfl (Qf7 (i := a4) Tryz.underlying160 (Qb5).siz rfl B3 rfl h)<|qv rfl (Qk9 (q := 0) (u := wv y5) Qb5 rfl B3 h (by first | rfl | omega) rfl)<|qm rfl<|Qa1<|qg 6 rfl<|qm rfl<|qm rfl ?_
 refine qv rfl (Qvr (a := a3) (b := y5) rfl rfl)<|qm rfl ?_
 obtain ⟨x6, j, hm⟩ := bnd hm
 refine qv rfl (Qle (c := a3 * y5) (d := p0) rfl rfl j)<|qm rfl<|Qa9<|Qay<|Qaz<|qg 2 rfl<|qv rfl (Qce (k := .i64) (a := a4) (b := 1) rfl rfl) ?_
 refine qm rfl<|Qa9 ?_
 have K_4 : Kz [] w w1 := K1
 subst f
 exact ⟨rfl, ⟨n1, x6, w64 (a4 + 1)⟩, sbq, ⟨hm, K_4⟩, Nat.lt_succ_self _⟩
theorem Qlo {p0 p1 p2 vp0 zp0 gp0 op0 r} (hm : Qek p0 p1 p2 = some r) {w : World} (A : Rd w zp0 gp0 op0 1 vp0 (p0.map uwc)) :
    Calls Tryz.prog 103 [vp0, wv p1, wv p2].toArray w fun e w' => ∃ v, e = .returned v ∧ (v = wv r ∧ Gr w w') := by
 have B := A.lth
 unfold Qek at hm
 refine Qa5 24 Tryz.func103 rfl rfl rfl<|qs 3 rfl<|qe rfl (Qaq (cs := [wv p1]) rfl rfl) ?_
 rintro _ w1 ⟨b1, rfl, aj, C, G1⟩
 have ao := C.lt
 refine qe rfl (Qaq (cs := [wv p2]) rfl rfl) ?_
 rintro _ w2 ⟨b2, rfl, ak, D, G2⟩
 have ap := D.lt
 refine qm rfl<|qd 2 rfl<|qe rfl (Qa8 (cs := [wv 0#64]) Xj3 rfl) ?_
 rintro _ w3 ⟨b3, rfl, al, F, G3⟩
 have aq := F.lt
 refine qe rfl (Qe9 (cs' := [wv 0#64]) (Qb5).siz rfl rfl rfl F rfl rfl) ?_
 rintro _ w4 ⟨S, M4⟩
 have z8 := M4.size
 refine Qa1<|Qa3<|qs 2 rfl<|qm rfl ?_
 have B9 := ((((A.gr G1).gr G2).gr G3).md M4 (Qau B))
 obtain ⟨x1, T, hm⟩ := bnd hm
 refine qe rfl (eC Xqu rfl (Qpw T B9)) ?_
 rintro _ w5 ⟨G, t, u, y, z, rfl, g, H, f, i, G5⟩
 have I := f.lth
 have am := g.lt
 refine Qa1<|Qan ?_
 obtain ⟨l2, U, hm⟩ := bnd hm
 have V := ((((((Gr.refl w).trans G1).trans G2).trans G3).md M4).trans G5)
 have X := ((((C.gr G2).gr G3).md M4).gr G5)
 have Y := (((D.gr G3).md M4).gr G5)
 have Z := (S.gr G5)
 refine Qi1 (gf := 237) rfl Xs8 (Qnt x1 _ _ _ _ _ _ U _ g f) (by intro x hx; obtain ⟨a, _, rfl⟩ := List.mem_map.1 hx; rfl) rfl _ (fun _ _ _ _ => False) ([b3]) (Qwk (α := BitVec 64) (fun a4 rk => itL (Qde p1 p2) Qe7 (List.drop rk l2) a4 = some r) (fun a4 => ([b3])) (fun a4 W => Bx W b3 24 ([wv a4]) ∧ True) (by rintro a4 W ⟨F0, _⟩ b hb; have q0 := F0.lt; replace hb : b ∈ ([b3]) := hb; simp only [List.mem_cons, List.mem_append, Qc5, List.not_mem_nil, or_false, false_or, not_or, ne_eq, List.nil_append, List.cons_append, true_and, and_true, false_and, and_false, not_true_eq_false, not_false_eq_true, or_true, true_or] at hb; omega) (by rintro a4 W W' ⟨F0, _⟩ E hs; replace hs : ∀ b ∈ ([b3]), W'.heap[b]? = W.heap[b]? := hs; exact ⟨(hs _ (by simp)).trans F0, trivial⟩)) (fun _ => Qqa) (by intro b hb; have := (Qd2 (b := b3) i (Qau B)); have := I.o; simp only [List.mem_cons, List.mem_append, Qc5, List.not_mem_nil, or_false, false_or, not_or, ne_eq, List.nil_append, List.cons_append, true_and, and_true, false_and, and_false, not_true_eq_false, not_false_eq_true, or_true, true_or] at hb ⊢; omega) ⟨0#64, hm, rfl, Z, trivial⟩ ?_ ?_ ?_
 · rintro l rk x fp w6 hl hx _ K6 hF hln hlt
   clear hm
   obtain ⟨⟨e5, e6⟩, hxe, rfl⟩ := map_some hx
   have J : Kz [(1, b3)] w5 w6 := Qm2 K6 (by intro k hk; simp only [Nin, and_true, List.mem_cons, List.mem_append, Qc5, List.not_mem_nil, or_false, false_or, not_or, ne_eq, List.nil_append, List.cons_append, true_and, and_true, false_and, and_false, not_true_eq_false, not_false_eq_true, or_true, true_or] at hk ⊢; omega)
   refine qg 1 rfl<|qm rfl<|Qa9<|⟨rfl, (Gr.refl _), ?_⟩
   rintro w7 M7 ⟨a4, hm, rfl, p, -⟩
   replace hm := Qzn hm hxe
   generalize hnx1 : itL (Qde p1 p2) Qe7 (List.drop (rk + 1) l2) = ar at hm
   unfold Qde at hm
   try dsimp only at hm
   refine Qan<|dw [([b3]),([])] [(9, [1])] (.leaf [(0,10),(1,11),(2,10),(5,10),(7,10),(3,0),(4,0),(6,10),(8,10),(9,0)]) ?_
   intro w8 G8 au
   refine Qal ?_
   have K := (((X.kz J).md M7).gr G8)
   refine dh 0 rfl rfl (fun w hS => Qa2 (v := wv p1) Qp3 rfl (Bx.kp K hS) rfl) ?_
   have L := (p.gr G8)
   refine dh 1 rfl rfl (fun w hS => Qa2 (v := wv a4) Qb5 rfl (Bx.kp L hS) rfl) ?_
   have aa := (((Y.kz J).md M7).gr G8)
   refine dh 0 rfl rfl (fun w hS => Qa2 (v := wv p2) Qb5 rfl (Bx.kp aa hS) rfl)<|dm 0 rfl rfl<|dh 0 rfl rfl (fun w hS => Qa2 (v := wv p1) Qp3 rfl (Bx.kp K hS) rfl)<|qz [] rfl (Qdk [a4, p2] uwc Qqi rfl rfl (Qjr rfl) rfl rfl rfl) ⟨fun _ => tk0, fun _ => tk0, trivial⟩ ?_
   rintro av w9 ⟨aw, an, ab, G9⟩
   refine kG G9 ?_
   obtain ⟨x7, ac, hm⟩ := bnd hm
   refine qz [] rfl (eC Xat rfl (Qhb ac (Own.rd ab))) ⟨fun _ => tk0, fun _ => tk0, trivial⟩ ?_
   rintro _ ax ⟨rfl, m⟩
   refine kG m ?_
   have M := (((Kp.refl ([b3]) w8).gr G9).gr m)
   refine qh 0 rfl rfl M (fun w hS => Qtn (a := x7) (b := e6) rfl rfl) ?_
   obtain ⟨x8, ad, hm⟩ := bnd hm
   refine qh 0 rfl rfl M (fun w hS => Qle (c := x7 + e6) (d := p1) rfl rfl ad) ?_
   have ae := ((L.gr G9).gr m)
   refine qz [(1, b3)] rfl (Qe9 (cs' := [wv x8]) (Qb5).siz rfl rfl rfl ae rfl rfl) ⟨fun _ => tk0, nofun, trivial⟩ ?_
   rintro _ N ⟨O, P⟩
   refine kM P<|Qa9<|Qay ?_
   have K_30 : Kz [(1, b3)] w7 N := ((((Kz.gr (Kz.refl _ _) G8).gr G9).gr m).md P)
   have Kq30 : Kp ([b3]) w7 N := Qsx K_30 (by intro k hk; simp only [Nin, and_true, List.mem_cons, List.mem_append, Qc5, List.not_mem_nil, or_false, false_or, not_or, ne_eq, List.nil_append, List.cons_append, true_and, and_true, false_and, and_false, not_true_eq_false, not_false_eq_true, or_true, true_or] at hk ⊢; omega)
   subst hnx1
   exact ⟨Kq30, ([b3]), (by intro c hc; simp only [List.mem_cons, List.mem_append, Qc5, List.not_mem_nil, or_false, false_or, not_or, ne_eq, List.nil_append, List.cons_append, true_and, and_true, false_and, and_false, not_true_eq_false, not_false_eq_true, or_true, true_or] at hc ⊢; omega), ⟨x8, hm, rfl, O, trivial⟩⟩
 · clear hm; rintro j fp q af s Q ⟨a4, hm, rfl, n, -⟩ ag
   replace hm := Qws hm
   have R : Kz [(1, b3)] w5 q := Qm2 ag (by intro k hk; simp only [Nin, and_true, List.mem_cons, List.mem_append, Qc5, List.not_mem_nil, or_false, false_or, not_or, ne_eq, List.nil_append, List.cons_append, true_and, and_true, false_and, and_false, not_true_eq_false, not_false_eq_true, or_true, true_or] at hk ⊢; omega)
   simp only [List.mem_cons, List.mem_append, Qc5, List.not_mem_nil, or_false, false_or, not_or, ne_eq, List.nil_append, List.cons_append, true_and, and_true, false_and, and_false, not_true_eq_false, not_false_eq_true, or_true, true_or, not_and] at Q
   unfold Qe7 at hm
   try dsimp only at hm
   refine Qay<|Qaz<|qs 2 rfl<|qv rfl (Qa2 (v := wv a4) Qb5 rfl n rfl)<|qm rfl<|Qa1 ?_
   refine Qag ?_
   have DL34 := s
   have ah := Md.put (w := q) j (.deferred none)
   have ai : Gr w (q.putObj j (.deferred none)) := ((V.kz R).md ah)
   cases hm
   refine ⟨_, _, ⟨j, rfl, DL34, rfl⟩, Qb1 rfl (Qab rfl), ?_⟩
   exact ⟨rfl, ai⟩
 rintro _ _ _ _ _ _ _ _ _ h _
 exact h.elim
theorem Qzg {p0 p1 p2 r} (hm : Qh0 p0 p1 p2 = some r) {w : World} :
    Calls Tryz.prog 140 [kv p0, .agg (Qa7.cs p1).toArray, .int .i64 p2].toArray w fun e w' => ∃ v, e = .returned v ∧ (∃ ur0_1 zr0_1 gr0_1, v = .tuple [.agg (Qae.cs r.1 ur0_1).toArray, .int .i64 r.2].toArray ∧ Own w' zr0_1 gr0_1 92 18 ur0_1 (r.1.Labels.map Qb8.cs) ∧ Hdn (zr0_1 = 0 ∨ w.heap.size ≤ gr0_1) ∧ Gr w w') := by
 unfold Qh0 at hm
 refine Qa5 38 Tryz.func140 rfl rfl rfl<|qs 4 rfl<|qe rfl (Qaq (cs := kb p0) rfl rfl) ?_
 rintro _ w1 ⟨b1, rfl, H, i, G1⟩
 have K := i.lt
 refine qe rfl (Qaq (cs := Qa7.cs p1) rfl rfl) ?_
 rintro _ w2 ⟨b2, rfl, I, j, G2⟩
 have L := j.lt
 refine qe rfl (Qa8 (cs := Qae.cs (Qae.mk 0 [] (Qah.mk 0#64 0#64)) (.slice none 0 0)) Xbe rfl) ?_
 rintro _ w3 ⟨b3, rfl, J, f, G3⟩
 refine qm rfl<|Qa1<|Qa3<|qs 3 rfl ?_
 have B7 := (j.gr G3)
 refine qv rfl (Qa4 Qcn rfl B7 rfl) ?_
 obtain ⟨x1, s, hm⟩ := bnd hm
 refine qe rfl (eC Xkz rfl (Qnb s)) ?_
 rintro _ w4 ⟨rfl, G4⟩
 refine qv rfl (Qci rfl)<|Qa1<|Qam rfl (fun c1 => ?_) (fun c1 => ?_)
 · replace hm := Qc8 c1 hm
   refine qs 3 rfl<|qv rfl (Qas (cs := Qae.cs (Qae.mk 0 [] (Qah.mk 0#64 0#64)) (.slice none 0 0)) Qy8 rfl rfl) ?_
   have B9 := (f.gr G4)
   refine qe rfl (Qaj Qeg rfl rfl (Qae.cs_ones _ _ rfl) B9 rfl rfl) ?_
   rintro _ w5 ⟨t, M5⟩
   refine qm rfl<|qb ?_
   have Y1 := Gr.trans (Gr.trans (Gr.trans G1 G2) G3) G4
   have u := (((Gr.refl w).trans Y1).md M5)
   cases hm
   refine ⟨_, _, rfl, Qbk rfl (Qap Qeg rfl t rfl) (Qab rfl), ?_⟩
   exact ⟨(.slice none 0 0), 0, 0, rfl, (Qax _ 0 92 18), ⟨.inl rfl⟩, u⟩
 replace hm := Qc7 c1 hm
 refine qu<|Qa3 ?_
 have Y2 := Gr.trans (Gr.trans (Gr.trans G1 G2) G3) G4
 have k := ((Gr.refl w).trans Y2)
 refine qj (β := Bool) (rg 13 9) (fun a2 => [(21, .bool a2)]) (fun a2 wr => (Qg4 p0 p1 p2 a2 = some r) ∧ Kz [] w4 wr) ?_ ?_
 · refine qg 9 rfl<|qm rfl<|qv rfl (Qcd (a := p2) (b := 0) rfl rfl)<|qp rfl (Qac rfl) (fun c3 => ?_) (fun c3 => ?_)
   · replace hm := iT c3 hm
     refine qk rfl<|qk rfl<|qk rfl<|qk rfl<|qk rfl<|qm rfl<|Qa9 ?_
     exact ⟨rfl, true, sbq, hm, kz0⟩
   replace hm := iF c3 hm
   refine qm rfl<|qv rfl (Qa0 Qmr rfl) ?_
   have x := (B7.gr G4)
   refine qv rfl (Qa2 (v := .int .i64 p1.Depth) Qaw rfl x rfl) ?_
   obtain ⟨n5, hn5, hm⟩ := bnd hm
   refine qv rfl (Qu1 (a := 1) (b := p1.Depth) rfl rfl hn5)<|qv rfl (Qee (a := p2) (b := Qxk 1 n5) rfl rfl)<|qm rfl<|Qa9 ?_
   exact ⟨rfl, (decide (Qxk 1 n5 ≤ p2)), sbq, hm, kz0⟩
 clear hm; rintro a2 w6 ⟨hm, K6⟩
 unfold Qg4 at hm
 refine Qam rfl (fun c2 => ?_) (fun c2 => ?_)
 · replace hm := Qc8 c2 hm
   refine qs 3 rfl<|qv rfl (Qas (cs := Qae.cs (Qae.mk 0 [] (Qah.mk 0#64 0#64)) (.slice none 0 0)) Qy8 rfl rfl) ?_
   have y := ((f.gr G4).kz K6)
   refine qe rfl (Qaj Qeg rfl rfl (Qae.cs_ones _ _ rfl) y rfl rfl) ?_
   rintro _ w7 ⟨z, M7⟩
   refine qm rfl<|qb ?_
   have A := ((k.kz K6).md M7)
   cases hm
   refine ⟨_, _, rfl, Qbk rfl (Qap Qeg rfl z rfl) (Qab rfl), ?_⟩
   exact ⟨(.slice none 0 0), 0, 0, rfl, (Qax _ 0 92 18), ⟨.inl rfl⟩, A⟩
 replace hm := Qc7 c2 hm
 refine qu<|qs 4 rfl<|qm rfl<|qv rfl (Qfe Qfp rfl)<|qv rfl (Qtn (a := wd p2) (b := 1#64) rfl rfl) ?_
 refine qm rfl<|Qa1<|Qa3<|dw [([b3])] [] (.leaf [(0,10),(1,10),(2,10),(3,10),(5,10),(6,10),(7,10),(8,10),(4,0),(9,0),(10,10),(11,10),(12,0),(13,10)]) ?_
 intro w8 G8 M
 refine Qal<|dm 0 rfl rfl<|dm 0 rfl rfl ?_
 have Y3 := Gr.trans (Gr.trans G2 G3) G4
 have B := (((i.gr Y3).kz K6).gr G8)
 refine dh 0 rfl rfl (fun w hS => Qa4 Qak rfl (Bx.kp B hS) rfl) ?_
 have l := (((B7.gr G4).kz K6).gr G8)
 refine dh 0 rfl rfl (fun w hS => Qa4 Qcn rfl (Bx.kp l hS) rfl)<|dh 0 rfl rfl (fun w hS => Qa0 Qk5 rfl)<|dh 0 rfl rfl (fun w hS => Qa0 Qmo rfl)<|dh 0 rfl rfl (fun w hS => Qa2 (v := wv p1.Group.Q) Qb5 rfl (Bx.kp l hS) rfl)<|dm 0 rfl rfl ?_
 obtain ⟨x3, C, hm⟩ := bnd hm
 refine qz [] rfl (eC Xf8 rfl (Qif C)) ⟨fun _ => tk0, trivial⟩ ?_
 rintro m w9 ⟨_, n, o, rfl, c, p, G9⟩
 refine kG G9 ?_
 obtain ⟨x4, D, hm⟩ := bnd hm
 refine qz [] rfl (eC Xlv rfl (Qlo D (Own.rd c))) ⟨fun _ => tk0, trivial⟩ ?_
 rintro _ N ⟨rfl, d⟩
 refine kG d ?_
 have g := (((Kp.refl ([b3]) w8).gr G9).gr d)
 refine qh 0 rfl rfl g (fun w hS => Qas (cs := Qah.cs (Qah.mk ((wd p2) + 1#64) x4)) Xin rfl rfl)<|qh 0 rfl rfl g (fun w hS => Qas (cs := Qae.cs (Qae.mk p2 [] (Qah.mk ((wd p2) + 1#64) x4)) (.slice none 0 0)) Qy8 rfl (Qk4 rfl rfl rfl (Qk4 rfl rfl rfl rfl))) ?_
 have E := (((((f.gr G4).kz K6).gr G8).gr G9).gr d)
 refine qz [(1, b3)] rfl (Qaj Qeg rfl rfl (Qae.cs_ones _ _ rfl) E rfl rfl) ⟨fun _ => tk0, trivial⟩ ?_
 rintro _ O ⟨q, h⟩
 refine kM h ?_
 have F := (g.md h)
 refine dn 0 rfl rfl F<|Qa1<|Qag ?_
 have G := (((((k.kz K6).trans G8).trans G9).trans d).md h)
 cases hm
 refine ⟨_, _, rfl, Qbk rfl (Qap Qeg rfl q rfl) (Qab rfl), ?_⟩
 exact ⟨(.slice none 0 0), 0, 0, rfl, (Qax _ 0 92 18), ⟨.inl rfl⟩, G⟩
theorem Qu0 {p0 p1 bp1 r} (hm : Qkc p0 p1 = some r) {w : World} (hbp1 : Bx w bp1 31 (Qah.cs p1)) :
    Calls Tryz.prog 184 [.agg (Qah.cs p0).toArray, .pointer (some ⟨bp1, 0, none⟩)].toArray w fun e w' => ∃ v, e = .returned v ∧ (v = .bool r ∧ Gr w w') := by
 unfold Qkc at hm
 refine Qa5 9 Tryz.func184 rfl rfl rfl<|qs 2 rfl<|qe rfl (Qaq (cs := Qah.cs p0) rfl rfl) ?_
 rintro _ w1 ⟨b1, rfl, b, a, G1⟩
 refine qm rfl<|qd 6 rfl<|qv rfl (Qa0 Qo4 rfl)<|qv rfl (Qa2 (v := wv p0.X) Qb5 rfl a rfl)<|qv rfl (Qa0 Qo4 rfl) ?_
 have B4 := (hbp1.gr G1)
 refine qv rfl (Qa2 (v := wv p1.X) Qb5 rfl B4 rfl)<|qv rfl (Qtv (c := p0.X) (d := p1.X) rfl rfl)<|qm rfl<|Qa1<|Qag ?_
 have X5 := ((Gr.refl w).trans G1)
 cases hm
 refine ⟨_, _, rfl, Qb1 rfl (Qab rfl), ?_⟩
 exact ⟨rfl, X5⟩
theorem Qi5 {p0 d vp0 zp0 gp0 op0 bp1_0 r} (hm : Qch p0 d = some r) {w : World} (g : Rd w zp0 gp0 op0 2 vp0 (p0.map Qah.cs)) (hbp1_0 : Bx w bp1_0 31 (Qah.cs d)) :
    Calls Tryz.prog 238 [vp0, .func (.func 184) [].toArray [.pointer (some ⟨bp1_0, 0, none⟩)].toArray].toArray w fun e w' => ∃ v, e = .returned v ∧ (v = .int .i64 r ∧ Gr w w') := by
 unfold Qch at hm
 refine Qa5 19 Tryz.func238 rfl rfl rfl<|qs 1 rfl<|qm rfl<|Qa1<|Qa3<|Qa3 ?_
 refine qg 3 rfl<|qm rfl<|qv rfl (Qbi (l := p0) (c := Qah.cs) Tryz.underlying46 rfl g)<|qm rfl<|Qa1<|Qan<|Qbj (α := Nat × Int) ([4, 5] ++ rg 8 11) (fun ⟨n1, a2⟩ => [(4, .int .i64 0), (8, .int .i64 a2)]) (fun ⟨n1, a2⟩ wr => (Qc3 (Qbd p0 d) n1 a2 = some r) ∧ Kz [] w wr) (fun ⟨n1, a2⟩ => n1) ⟨Qcw, 0⟩ ?_ ?_ ?_
 · exact sbq
 · exact ⟨hm, Kz.refl _ _⟩
 clear hm; rintro ⟨n1, a2⟩ w1 ⟨hm, K1⟩
 have hb := Qbv hm; clear hm; obtain ⟨n1, rfl, hm⟩ := hb
 generalize f : Qc3 (Qbd p0 d) n1 = m at hm
 unfold Qbd at hm
 try dsimp only at hm
 refine qs 1 rfl<|qv rfl (Qcd (a := a2) (b := (p0.length : Int)) rfl rfl)<|Qa1<|Qa3<|cnF rfl (fun c1 => ?_) (fun c1 => ?_)
 · replace hm := iF c1 hm
   refine Qbp<|Qb4<|Qb4<|Qbq<|Qaz<|qs 1 rfl ?_
   refine qm rfl<|Qa1<|Qag ?_
   have X9 := ((Gr.refl w).kz K1)
   cases hm
   refine ⟨_, _, rfl, Qb1 rfl (Qab rfl), ?_⟩
   exact ⟨rfl, X9⟩
 replace hm := iT c1 hm
 refine qu<|Qa3<|Qan<|qs 2 rfl<|qm rfl ?_
 refine qm rfl<|qd 6 rfl<|qm rfl<|qm rfl<|qm rfl ?_
 obtain ⟨y3, h, hm⟩ := bnd hm
 have B4 := (g.kz K1)
 refine qv rfl (Qf7 (i := a2) Tryz.underlying46 (Qgo).siz rfl B4 rfl h)<|qv rfl (Qhs Qgo rfl B4 h (by first | rfl | omega)) ?_
 have B5 := (hbp1_0.kz K1)
 obtain ⟨x4, j, hm⟩ := bnd hm
 refine qe rfl (Qcy Xqy rfl rfl (Qu0 j B5)) ?_
 rintro _ w2 ⟨rfl, G2⟩
 refine Qa1<|Qam rfl (fun c2 => ?_) (fun c2 => ?_)
 · replace hm := Qc8 c2 hm
   refine qs 2 rfl<|qm rfl<|qm rfl<|Qa1<|Qag<|Qbo ?_
   refine Qb2<|Qb2<|Qbo<|Qb2 ?_
   have X7 := (((Gr.refl w).kz K1).trans G2)
   cases hm
   refine ⟨_, _, rfl, Qb1 rfl (Qab rfl), ?_⟩
   exact ⟨rfl, X7⟩
 replace hm := Qc7 c2 hm
 refine Qc4<|Qay<|Qaz<|qg 2 rfl<|qv rfl (Qce (k := .i64) (a := a2) (b := 1) rfl rfl)<|qm rfl<|Qa9 ?_
 have K_8 : Kz [] w w2 := (K1.gr G2)
 subst f
 exact ⟨rfl, ⟨n1, w64 (a2 + 1)⟩, sbq, ⟨hm, K_8⟩, Nat.lt_succ_self _⟩
theorem Qhh {p0 c vp0 zp0 gp0 op0 bp1_0 r} (hm : Qbm p0 c = some r) {w : World} (d : Rd w zp0 gp0 op0 2 vp0 (p0.map Qah.cs)) (hbp1_0 : Bx w bp1_0 31 (Qah.cs c)) :
    Calls Tryz.prog 183 [vp0, .func (.func 184) [].toArray [.pointer (some ⟨bp1_0, 0, none⟩)].toArray].toArray w fun e w' => ∃ v, e = .returned v ∧ (v = .bool r ∧ Gr w w') := by
 unfold Qbm at hm
 refine Qa5 9 Tryz.func183 rfl rfl rfl<|qs 1 rfl<|qm rfl<|qd 5 rfl ?_
 refine qm rfl<|qm rfl ?_
 obtain ⟨x1, f, hm⟩ := bnd hm
 refine qe rfl (eC Xsi rfl (Qi5 f d hbp1_0)) ?_
 rintro _ w1 ⟨rfl, G1⟩
 refine qv rfl (Qee (a := x1) (b := 0) rfl rfl)<|qm rfl<|Qa1<|Qag ?_
 have X4 := ((Gr.refl w).trans G1)
 cases hm
 refine ⟨_, _, rfl, Qb1 rfl (Qab rfl), ?_⟩
 exact ⟨rfl, X4⟩
theorem Qqk {p0 vp0 zp0 gp0 op0 r} (hm : Qij p0 = some r) {w : World} (d : Rd w zp0 gp0 op0 2 vp0 (p0.map Qah.cs)) :
    Calls Tryz.prog 107 [vp0].toArray w fun e w' => ∃ v, e = .returned v ∧ (v = .bool r ∧ Gr w w') := by
 have h := d.lth
 unfold Qij at hm
 refine Qa5 18 Tryz.func107 rfl rfl rfl<|qs 1 rfl<|qm rfl<|Qa1<|Qa3<|Qa3 ?_
 refine qg 3 rfl<|qm rfl<|qv rfl (Qbi (l := p0) (c := Qah.cs) Tryz.underlying46 rfl d)<|qm rfl<|Qa1<|Qan<|Qbj (α := Nat × Int) ([2, 3, 4] ++ rg 7 11) (fun ⟨n1, a2⟩ => [(2, .bool false), (7, .int .i64 a2)]) (fun ⟨n1, a2⟩ wr => (Qc3 (Qem p0) n1 a2 = some r) ∧ Kz [] w wr) (fun ⟨n1, a2⟩ => n1) ⟨Qcw, 0⟩ ?_ ?_ ?_
 · exact sbq
 · exact ⟨hm, Kz.refl _ _⟩
 clear hm; rintro ⟨n1, a2⟩ w1 ⟨hm, K1⟩
 have z2 := K1.size
 have hb := Qbv hm; clear hm; obtain ⟨n1, rfl, hm⟩ := hb
 generalize f : Qc3 (Qem p0) n1 = s at hm
 unfold Qem at hm
 try dsimp only at hm
 refine qs 1 rfl<|qv rfl (Qcd (a := a2) (b := (p0.length : Int)) rfl rfl)<|Qa1<|Qa3<|cnF rfl (fun c1 => ?_) (fun c1 => ?_)
 · replace hm := iF c1 hm
   refine Qbp<|Qb4<|Qb4<|Qbq<|Qaz<|qs 1 rfl ?_
   refine qm rfl<|Qa1<|Qag ?_
   have j := ((Gr.refl w).kz K1)
   cases hm
   refine ⟨_, _, rfl, Qb1 rfl (Qab rfl), ?_⟩
   exact ⟨rfl, j⟩
 replace hm := iT c1 hm
 refine qu<|Qa3<|Qan<|qs 6 rfl<|qm rfl ?_
 obtain ⟨y3, g, hm⟩ := bnd hm
 have B3 := (d.kz K1)
 refine qv rfl (Qf7 (i := a2) Tryz.underlying46 (Qgo).siz rfl B3 rfl g)<|qv rfl (Qhs Qgo rfl B3 g (by first | rfl | omega))<|qe rfl (Qa8 (cs := Qah.cs (Qah.mk 0#64 0#64)) Xcf rfl) ?_
 rintro _ w2 ⟨b2, rfl, t, m, G2⟩
 refine qm rfl<|qe rfl (Qaj Qgo rfl rfl rfl m rfl rfl) ?_
 rintro _ w3 ⟨n, M3⟩
 refine qd 5 rfl<|qm rfl<|qm rfl ?_
 obtain ⟨l4, o, hm⟩ := bnd hm
 have B7 := ((B3.gr G2).md M3 (Qau h))
 refine qt rfl (Xi2 (P := Tryz.prog) (lo := 0) (hi := a2) (l := p0) (c := Qah.cs) Tryz.underlying46 (Qgo).siz rfl B7 rfl ⟨_, rfl⟩ o) ?_
 rintro v8 o8 R8
 refine qv rfl (Qfb rfl rfl) ?_
 obtain ⟨x5, p, hm⟩ := bnd hm
 refine qe rfl (eC Xsn rfl (Qhh p R8 n)) ?_
 rintro _ w4 ⟨rfl, G4⟩
 refine Qa1<|Qam rfl (fun c2 => ?_) (fun c2 => ?_)
 · replace hm := Qc8 c2 hm
   refine qs 1 rfl<|qm rfl<|Qa1<|Qag<|Qbo<|Qb2 ?_
   refine Qb2<|Qbo<|Qb2 ?_
   have q := (((((Gr.refl w).kz K1).trans G2).md M3).trans G4)
   cases hm
   refine ⟨_, _, rfl, Qb1 rfl (Qab rfl), ?_⟩
   exact ⟨rfl, q⟩
 replace hm := Qc7 c2 hm
 refine Qc4<|Qay<|Qaz<|qg 2 rfl<|qv rfl (Qce (k := .i64) (a := a2) (b := 1) rfl rfl)<|qm rfl<|Qa9 ?_
 have K_12 : Kz [] w w4 := (((K1.gr G2).md M3).gr G4)
 subst f
 exact ⟨rfl, ⟨n1, w64 (a2 + 1)⟩, sbq, ⟨hm, K_12⟩, Nat.lt_succ_self _⟩
theorem Qn0 {p0 vp0 zp0 gp0 op0 r} (hm : Qik p0 = some r) {w : World} (b : Rd w zp0 gp0 op0 2 vp0 (p0.map Qah.cs)) :
    Calls Tryz.prog 182 [vp0].toArray w fun e w' => ∃ v, e = .returned v ∧ (∃ ur0_s zr0_s gr0_s, v = ur0_s ∧ Own w' zr0_s gr0_s 31 2 ur0_s (r.map Qah.cs) ∧ Hdn (zr0_s = 0 ∨ w.heap.size ≤ gr0_s) ∧ Gr w w') := by
 unfold Qik at hm
 refine Qa5 8 Tryz.func182 rfl rfl rfl<|qs 1 rfl<|qm rfl<|Qa1<|Qa3<|Qa3 ?_
 refine qg 2 rfl<|qm rfl ?_
 rcases Xdi b with ⟨d, a, f⟩ | ⟨t, u, d, a⟩
 · replace hm : (some []) = some r := by rw [f] at hm; exact hm
   refine qv rfl (Qsw Tryz.underlying46 rfl a)<|Qa1<|Qjs rfl<|qs 1 rfl<|qm rfl<|Qa1 ?_
   refine Qag<|Qb2 ?_
   cases hm
   refine ⟨_, _, rfl, Qb1 rfl (Qab rfl), ?_⟩
   exact ⟨(.slice none 0 0), 0, 0, rfl, (Qax _ 0 31 2), ⟨.inl rfl⟩, (Gr.refl w)⟩
 skip
 refine qv rfl (Qsw Tryz.underlying46 rfl a)<|Qa1<|Qkv rfl<|qu<|qs 4 rfl ?_
 refine qe rfl (Qdk ([] : List Qah) Qah.cs Xkv rfl rfl (Qjr rfl) rfl rfl rfl) ?_
 rintro y w1 ⟨g, s, h, G1⟩
 have z3 := G1.size
 refine qm rfl ?_
 have B5 := (b.gr G1)
 obtain ⟨l1, i, hm⟩ := bnd hm
 refine qe rfl (Qk1 (l := ([] : List Qah)) (m := p0) (c := Qah.cs) Qxr rfl rfl h B5 i (by decide)) ?_
 rintro j w2 ⟨k, n, o, p, z, q⟩
 refine qm rfl<|Qa1<|Qag ?_
 have X7 := (((Gr.refl w).trans G1).ka p (tk1 ((.inr tk0) : 1 = 0 ∨ w.heap.size ≤ g)))
 cases hm
 refine ⟨_, _, rfl, Qb1 rfl (Qab rfl), ?_⟩
 exact ⟨j, k, n, rfl, o, ⟨(Qmj (A := (fun x => w.heap.size ≤ x)) q (.inr tk0))⟩, X7⟩
theorem Xbw {p0 p1 p2 vp1_1 zp1_1 gp1_1 op1_1 vp2_0 zp2_0 gp2_0 op2_0 vp2_2 zp2_2 gp2_2 op2_2 r} (hm : Qq3 p0 p1 p2 = some r) {w : World} (av : Rd w zp1_1 gp1_1 op1_1 18 vp1_1 (p1.Labels.map Qb8.cs)) (L : Rd w zp2_0 gp2_0 op2_0 18 vp2_0 (p2.Items.map Qcc.cs)) (n : Rd w zp2_2 gp2_2 op2_2 2 vp2_2 (p2.Points.map Qah.cs)) :
    Calls Tryz.prog 106 [.agg (Qa7.cs p0).toArray, .agg (Qae.cs p1 vp1_1).toArray, .agg (Qaa.cs p2 vp2_0 vp2_2).toArray].toArray w fun e w' => ∃ v, e = .returned v ∧ (v = .bool r ∧ Gr w w') := by
 unfold Qq3 at hm
 refine Qa5 91 Tryz.func106 rfl rfl rfl<|qs 4 rfl<|qe rfl (Qaq (cs := Qa7.cs p0) rfl rfl) ?_
 rintro _ w1 ⟨b1, rfl, aQ, B, G1⟩
 have a6 := B.lt
 refine qe rfl (Qaq (cs := Qae.cs p1 vp1_1) rfl rfl) ?_
 rintro _ w2 ⟨b2, rfl, aR, M, G2⟩
 have a7 := M.lt
 refine qe rfl (Qaq (cs := Qaa.cs p2 vp2_0 vp2_2) rfl rfl) ?_
 rintro _ w3 ⟨b3, rfl, aS, o, G3⟩
 have ba := o.lt
 refine qm rfl<|Qa1<|Xjt ?_
 have Y1 := Gr.trans (Gr.trans G1 G2) G3
 have aw := ((Gr.refl w).trans Y1)
 refine qj (β := Bool) ([7] ++ rg 10 30) (fun a1 => [(7, .bool a1)]) (fun a1 wr => (Qg2 p0 p1 p2 a1 = some r) ∧ Kz [] w3 wr) ?_ ?_
 · refine qg 31 rfl<|qv rfl (Qa0 Qhu rfl)<|qv rfl (Qa2 (v := vp2_0) Qkf rfl o rfl) ?_
   have ax := (L.gr Y1)
   refine qv rfl (Qbi (l := p2.Items) (c := Qcc.cs) Tryz.underlying45 rfl ax)<|qv rfl (Qeh (a := (p2.Items.length : Int)) (b := 0) rfl rfl)<|qpF rfl (Qac rfl) (fun c7 => ?_) (fun c7 => ?_)
   · replace hm := iF c7 hm
     refine qk rfl<|qk rfl<|qk rfl<|qm rfl<|qm rfl<|qk rfl<|qk rfl ?_
     refine qk rfl<|qk rfl<|qk rfl<|qk rfl<|qm rfl<|qm rfl<|qk rfl ?_
     refine qk rfl<|qk rfl<|qk rfl<|qk rfl<|qk rfl<|qm rfl<|qm rfl ?_
     refine qk rfl<|qk rfl<|qk rfl<|qm rfl<|qm rfl<|Qa9 ?_
     exact ⟨rfl, false, sbq, hm, kz0⟩
   replace hm := iT c7 hm
   refine qv rfl (Qa0 Qou rfl)<|qv rfl (Qa2 (v := wv p2.Base) Qb5 rfl o rfl)<|qv rfl (Qvb (c := p2.Base) (d := 1#64) rfl rfl)<|qm rfl<|qpF rfl (Qac rfl) (fun c8 => ?_) (fun c8 => ?_)
   · replace hm := iF c8 hm
     refine qk rfl<|qk rfl<|qk rfl<|qk rfl<|qk rfl<|qk rfl<|qm rfl ?_
     refine qm rfl<|qk rfl<|qk rfl<|qk rfl<|qk rfl<|qk rfl<|qk rfl ?_
     refine qm rfl<|qm rfl<|qk rfl<|qk rfl<|qk rfl<|qm rfl<|qm rfl ?_
     refine Qa9 ?_
     exact ⟨rfl, false, sbq, hm, kz0⟩
   replace hm := iT c8 hm
   refine qv rfl (Qa0 Qou rfl)<|qv rfl (Qa2 (v := wv p2.Base) Qb5 rfl o rfl)<|qv rfl (Qa0 Qk5 rfl)<|qv rfl (Qa0 Qqg rfl) ?_
   have Y2 := Gr.trans G2 G3
   have W := (B.gr Y2)
   refine qv rfl (Qa2 (v := wv p0.Group.P) Qb5 rfl W rfl)<|qv rfl (Qs5 (c := p2.Base) (d := p0.Group.P) rfl rfl)<|qm rfl<|qpF rfl (Qac rfl) (fun c9 => ?_) (fun c9 => ?_)
   · replace hm := iF c9 hm
     refine qk rfl<|qk rfl<|qk rfl<|qk rfl<|qk rfl<|qk rfl<|qm rfl ?_
     refine qm rfl<|qk rfl<|qk rfl<|qk rfl<|qm rfl<|qm rfl<|Qa9 ?_
     exact ⟨rfl, false, sbq, hm, kz0⟩
   replace hm := iT c9 hm
   refine qv rfl (Qa0 Qgi rfl)<|qv rfl (Qa2 (v := vp2_2) Qix rfl o rfl) ?_
   have Z := (n.gr Y1)
   refine qv rfl (Qbi (l := p2.Points) (c := Qah.cs) Tryz.underlying46 rfl Z)<|qv rfl (Qa0 Qs0 rfl)<|qv rfl (Qa2 (v := .int .i64 p0.Degree) Qaw rfl W rfl)<|qv rfl (Qeh (a := (p2.Points.length : Int)) (b := p0.Degree) rfl rfl)<|qm rfl<|qpF rfl (Qac rfl) (fun N => ?_) (fun N => ?_)
   · replace hm := iF N hm
     refine qk rfl<|qk rfl<|qk rfl<|qm rfl<|qm rfl<|Qa9 ?_
     exact ⟨rfl, false, sbq, hm, kz0⟩
   replace hm := iT N hm
   refine qv rfl (Qa0 Qgi rfl)<|qv rfl (Qa2 (v := vp2_2) Qix rfl o rfl) ?_
   obtain ⟨ay, aa, hm⟩ := bnd hm
   refine qe rfl (eC Xm2 rfl (Qqk aa Z)) ?_
   rintro _ bb ⟨rfl, az⟩
   refine qm rfl<|qm rfl<|Qa9 ?_
   exact ⟨rfl, ay, sbq, hm, (kz0.gr az)⟩
 clear hm; rintro a1 w4 ⟨hm, K4⟩
 have bc := K4.size
 unfold Qg2 at hm
 refine Qa3<|Xk8<|Qaz ?_
 have ab := (aw.kz K4)
 refine qj (β := Bool) ([7, 9] ++ rg 40 41) (fun a2 => [(7, .bool a2)]) (fun a2 wr => (Qjo p0 p1 a2 = some r) ∧ Kz [] w4 wr) ?_ ?_
 · refine qj (β := List Qah × Int × Value × Nat × Nat) (rg 40 11) (fun ⟨a3, a5, vy4, zy4, gy4⟩ => [(48, vy4), (49, .int .i64 a5), (50, .int .i64 0)]) (fun ⟨a3, a5, vy4, zy4, gy4⟩ wr => (Qni p0 p1 a1 a3 a5 = some r) ∧ Own wr zy4 gy4 31 2 vy4 (a3.map Qah.cs) ∧ Hdn (zy4 = 0 ∨ w4.heap.size ≤ gy4) ∧ Kz [] w4 wr) ?_ ?_
   · refine dw [([])] [] (.fork [(0,10),(1,10),(3,10),(4,10),(5,10),(6,10),(10,10)] (.leaf [(2,0),(7,0),(8,0),(9,0)]) (.leaf [(7,0),(2,0),(8,0),(9,0)])) ?_
     intro ac p aT
     refine Qbc<|dh 0 rfl rfl (fun w hS => Qa0 Qgi rfl) ?_
     have aA := ((o.kz K4).gr p)
     refine dh 0 rfl rfl (fun w hS => Qa2 (v := vp2_2) Qix rfl (Bx.kp aA hS) rfl)<|dh 0 rfl rfl (fun w hS => Qa0 Qyz rfl)<|dh 0 rfl rfl (fun w hS => Qa0 Qo4 rfl) ?_
     have aB := (((M.gr G3).kz K4).gr p)
     refine dh 0 rfl rfl (fun w hS => Qa2 (v := wv p1.Share.X) Qb5 rfl (Bx.kp aB hS) rfl)<|dh 0 rfl rfl (fun w hS => Qas (cs := Qah.cs (Qah.mk p1.Share.X 1#64)) Xin rfl rfl)<|dm 0 rfl rfl<|Qbt ?_ ?_
     · refine Qal ?_
       have aC := (((n.gr Y1).kz K4).gr p)
       obtain ⟨aD, ad, hm⟩ := bnd hm
       refine qz [] rfl (eC Xmj rfl (Qn0 ad aC)) ⟨fun _ => tk0, trivial⟩ ?_
       rintro U bd ⟨_, q, s, rfl, t, f, O⟩
       have be := O.size
       refine kG O<|qz [] rfl (Qdk [(Qah.mk p1.Share.X 1#64)] Qah.cs Qt2 rfl rfl (Qjr rfl) rfl rfl rfl) ⟨fun _ => tk0, trivial⟩ ?_
       rintro aU bf ⟨aV, aE, ae, C⟩
       have bg := C.size
       refine kG C ?_
       have aF := (t.gr C)
       obtain ⟨R, af, hm⟩ := bnd hm
       refine qz [(q, s)] rfl (Qk1 (l := aD) (m := [(Qah.mk p1.Share.X 1#64)]) (c := Qah.cs) Qxr rfl rfl aF (Own.rd ae) af (by decide)) ⟨fun _ => (tk1 (Qbs (A := (fun x => ac.heap.size ≤ x)) f)), trivial⟩ ?_
       rintro ag bh ⟨ah, ai, G, H, aW, aj⟩
       refine ⟨Kz.ofKa H, ?_⟩
       refine qw rfl (Qbi (l := R) (c := Qah.cs) Tryz.underlying46 rfl (Own.rd G))<|Qa9 ?_
       exact ⟨rfl, ⟨R, (R.length : Int), ag, ah, ai⟩, sbq, hm, G, ⟨(Qmj (A := (fun x => w4.heap.size ≤ x)) aj (Qbs (A := (fun x => w4.heap.size ≤ x)) f))⟩, ((((kz0.gr p).gr O).gr C).ka H (tk1 (Qbs (A := (fun x => w4.heap.size ≤ x)) f)))⟩
     refine Qal<|qz [] rfl (Qdk [(Qah.mk p1.Share.X 1#64)] Qah.cs Qt2 rfl rfl (Qjr rfl) rfl rfl rfl) ⟨fun _ => tk0, trivial⟩ ?_
     rintro aX bi ⟨aY, aG, ak, D⟩
     have bj := D.size
     refine kG D ?_
     have aH := ((((n.gr Y1).kz K4).gr p).gr D)
     obtain ⟨aI, al, hm⟩ := bnd hm
     refine qz [] rfl (eC Xmj rfl (Qn0 al aH)) ⟨fun _ => tk0, trivial⟩ ?_
     rintro V bk ⟨_, u, y, rfl, z, g, E⟩
     have bl := E.size
     refine kG E ?_
     have aJ := (ak.gr E)
     obtain ⟨S, am, hm⟩ := bnd hm
     refine qz [(u, y)] rfl (Qk1 (l := aI) (m := [(Qah.mk p1.Share.X 1#64)]) (c := Qah.cs) Qxr rfl rfl z (Own.rd aJ) am (by decide)) ⟨fun _ => (tk1 (Qbs (A := (fun x => ac.heap.size ≤ x)) g)), trivial⟩ ?_
     rintro an bm ⟨ao, ap, I, J, aZ, aq⟩
     refine ⟨Kz.ofKa J, ?_⟩
     refine qw rfl (Qbi (l := S) (c := Qah.cs) Tryz.underlying46 rfl (Own.rd I))<|Qa9 ?_
     exact ⟨rfl, ⟨S, (S.length : Int), an, ao, ap⟩, sbq, hm, I, ⟨(Qmj (A := (fun x => w4.heap.size ≤ x)) aq (Qbs (A := (fun x => w4.heap.size ≤ x)) g))⟩, ((((kz0.gr p).gr D).gr E).ka J (tk1 (Qbs (A := (fun x => w4.heap.size ≤ x)) g)))⟩
   clear hm; rintro ⟨a3, a5, vy4, zy4, gy4⟩ w6 ⟨hm, T, aK, K6⟩
   have bo := K6.size
   unfold Qni at hm
   refine Qan ?_
   refine Qbj (α := Nat × Bool × Int) ([7, 9] ++ rg 50 31) (fun ⟨n4, a8, a9⟩ => [(7, .bool a8), (50, .int .i64 a9)]) (fun ⟨n4, a8, a9⟩ wr => (Qc3 (Qi6 p0 p1 a3 a5) n4 (a8, a9) = some r) ∧ Kz [] w6 wr) (fun ⟨n4, a8, a9⟩ => n4) ⟨Qcw, a1, 0⟩ ?_ ?_ ?_
   · exact sbq
   · exact ⟨hm, Kz.refl _ _⟩
   clear hm; rintro ⟨n4, a8, a9⟩ w7 ⟨hm, K7⟩
   have bp := K7.size
   have hb := Qbv hm; clear hm; obtain ⟨n4, rfl, hm⟩ := hb
   generalize h : Qc3 (Qi6 p0 p1 a3 a5) n4 = a0 at hm
   unfold Qi6 at hm
   try dsimp only at hm
   refine qs 1 rfl<|qv rfl (Qcd (a := a9) (b := a5) rfl rfl)<|Qa1<|Qa3<|cnF rfl (fun c2 => ?_) (fun c2 => ?_)
   · replace hm := iF c2 hm
     refine Qbp<|Qb4<|Qb4<|Qbq ?_
     exact ⟨rfl, a8, sbq, hm, ((kz0.kz K6).kz K7)⟩
   replace hm := iT c2 hm
   refine qu<|Qa3<|Qan<|qs 4 rfl ?_
   obtain ⟨j, K, hm⟩ := bnd hm
   have ar := (T.kz K7)
   refine qv rfl (Qf7 (i := a9) Tryz.underlying46 (Qgo).siz rfl (Own.rd ar) rfl K)<|qv rfl (Qhs Qgo rfl (Own.rd ar) K (by first | rfl | omega))<|qe rfl (Qa8 (cs := Qah.cs (Qah.mk 0#64 0#64)) Xcf rfl) ?_
   rintro _ w8 ⟨b8, rfl, a4, aL, G8⟩
   refine qe rfl (Qaj Qgo rfl rfl rfl aL rfl rfl) ?_
   rintro _ w9 ⟨F, M9⟩
   refine Qa1<|Qa3<|qs 2 rfl<|qm rfl<|qv rfl (Qci rfl)<|Qa1 ?_
   refine Qam rfl (fun c3 => ?_) (fun c3 => ?_)
   · replace hm := Qc8 c3 hm
     refine Qbp<|Qb4<|Xic rfl<|Qb4<|Qb4<|Qbq ?_
     exact ⟨rfl, a8, sbq, hm, ((((kz0.kz K6).kz K7).gr G8).md M9)⟩
   replace hm := Qc7 c3 hm
   refine qu<|qg 25 rfl<|qv rfl (Qa0 Qo4 rfl)<|qv rfl (Qa2 (v := wv j.X) Qb5 rfl F rfl)<|qv rfl (Qvb (c := j.X) (d := 1#64) rfl rfl)<|qpF rfl (Qac rfl) (fun c4 => ?_) (fun c4 => ?_)
   · replace hm := iF c4 hm
     refine qk rfl<|qk rfl<|qk rfl<|qk rfl<|qk rfl<|qk rfl<|qm rfl ?_
     refine qm rfl<|qk rfl<|qk rfl<|qk rfl<|qm rfl<|qm rfl<|qk rfl ?_
     refine qk rfl<|qk rfl<|qk rfl<|qk rfl<|qk rfl<|qm rfl<|qm rfl ?_
     refine Qa9<|Qay<|Qaz<|qg 2 rfl<|qv rfl (Qce (k := .i64) (a := a9) (b := 1) rfl rfl)<|qm rfl<|Qa9 ?_
     have K_34 : Kz [] w6 w9 := ((K7.gr G8).md M9)
     subst h
     exact ⟨rfl, ⟨n4, false, w64 (a9 + 1)⟩, sbq, ⟨hm, K_34⟩, Nat.lt_succ_self _⟩
   replace hm := iT c4 hm
   refine qv rfl (Qa0 Qo4 rfl)<|qv rfl (Qa2 (v := wv j.X) Qb5 rfl F rfl)<|qv rfl (Qa0 Qk5 rfl)<|qv rfl (Qa0 Qmo rfl) ?_
   have Y3 := Gr.trans G2 G3
   have au := ((((((B.gr Y3).kz K4).kz K6).kz K7).gr G8).md M9)
   refine qv rfl (Qa2 (v := wv p0.Group.Q) Qb5 rfl au rfl)<|qv rfl (Qs5 (c := j.X) (d := p0.Group.Q) rfl rfl)<|qm rfl<|qpF rfl (Qac rfl) (fun c5 => ?_) (fun c5 => ?_)
   · replace hm := iF c5 hm
     refine qk rfl<|qk rfl<|qk rfl<|qm rfl<|qm rfl<|qk rfl<|qk rfl ?_
     refine qk rfl<|qk rfl<|qk rfl<|qk rfl<|qm rfl<|qm rfl<|Qa9 ?_
     refine Qay<|Qaz<|qg 2 rfl<|qv rfl (Qce (k := .i64) (a := a9) (b := 1) rfl rfl)<|qm rfl<|Qa9 ?_
     have K_33 : Kz [] w6 w9 := ((K7.gr G8).md M9)
     subst h
     exact ⟨rfl, ⟨n4, false, w64 (a9 + 1)⟩, sbq, ⟨hm, K_33⟩, Nat.lt_succ_self _⟩
   replace hm := iT c5 hm
   refine qv rfl (Qa0 Qu2 rfl)<|qv rfl (Qa2 (v := wv j.Y) Qb5 rfl F rfl)<|qv rfl (Qvb (c := j.Y) (d := 1#64) rfl rfl)<|qm rfl<|qpF rfl (Qac rfl) (fun c6 => ?_) (fun c6 => ?_)
   · replace hm := iF c6 hm
     refine qk rfl<|qk rfl<|qk rfl<|qk rfl<|qk rfl<|qk rfl<|qm rfl ?_
     refine qm rfl<|Qa9<|Qay<|Qaz<|qg 2 rfl<|qv rfl (Qce (k := .i64) (a := a9) (b := 1) rfl rfl)<|qm rfl ?_
     refine Qa9 ?_
     have K_32 : Kz [] w6 w9 := ((K7.gr G8).md M9)
     subst h
     exact ⟨rfl, ⟨n4, false, w64 (a9 + 1)⟩, sbq, ⟨hm, K_32⟩, Nat.lt_succ_self _⟩
   replace hm := iT c6 hm
   refine qv rfl (Qa0 Qu2 rfl)<|qv rfl (Qa2 (v := wv j.Y) Qb5 rfl F rfl)<|qv rfl (Qa0 Qk5 rfl)<|qv rfl (Qa0 Qqg rfl)<|qv rfl (Qa2 (v := wv p0.Group.P) Qb5 rfl au rfl)<|qv rfl (Qs5 (c := j.Y) (d := p0.Group.P) rfl rfl)<|qm rfl ?_
   refine qm rfl<|Qa9<|Qay<|Qaz<|qg 2 rfl<|qv rfl (Qce (k := .i64) (a := a9) (b := 1) rfl rfl)<|qm rfl ?_
   refine Qa9 ?_
   have K_31 : Kz [] w6 w9 := ((K7.gr G8).md M9)
   subst h
   exact ⟨rfl, ⟨n4, decide (j.Y < p0.Group.P), w64 (a9 + 1)⟩, sbq, ⟨hm, K_31⟩, Nat.lt_succ_self _⟩
 clear hm; rintro a2 w5 ⟨hm, K5⟩
 unfold Qjo at hm
 refine qs 11 rfl<|qm rfl<|qpF rfl (Qac rfl) (fun c1 => ?_) (fun c1 => ?_)
 · replace hm := Qc7 c1 hm
   refine qk rfl<|qk rfl<|qk rfl<|qk rfl<|qk rfl<|qk rfl<|qk rfl ?_
   refine qm rfl<|qm rfl<|Qa1<|Qag<|Xfl ?_
   have aM := (ab.kz K5)
   cases hm
   refine ⟨_, _, rfl, Qb1 rfl (Qab rfl), ?_⟩
   exact ⟨rfl, aM⟩
 replace hm := Qc8 c1 hm
 refine qv rfl (Qa0 Qyz rfl)<|qv rfl (Qa0 Qu2 rfl) ?_
 have aN := (((M.gr G3).kz K4).kz K5)
 refine qv rfl (Qa2 (v := wv p1.Share.Y) Qb5 rfl aN rfl)<|qv rfl (Qa0 Qk5 rfl)<|qv rfl (Qa0 Qmo rfl) ?_
 have Y4 := Gr.trans G2 G3
 have aO := (((B.gr Y4).kz K4).kz K5)
 refine qv rfl (Qa2 (v := wv p0.Group.Q) Qb5 rfl aO rfl)<|qv rfl (Qs5 (c := p1.Share.Y) (d := p0.Group.Q) rfl rfl)<|qm rfl<|qm rfl<|Qa1<|Qag<|Xfl ?_
 have aP := (ab.kz K5)
 cases hm
 refine ⟨_, _, rfl, Qb1 rfl (Qab rfl), ?_⟩
 exact ⟨rfl, aP⟩
theorem Qpl {p0 r} (hm : Qhp p0 = some r) {w : World} :
    Calls Tryz.prog 236 [wv p0].toArray w fun e w' => ∃ v, e = .returned v ∧ (v = .bool r ∧ Gr w w') := by
 unfold Qhp at hm
 refine Qa5 9 Tryz.func236 rfl rfl rfl<|qs 1 rfl<|qm rfl<|qd 7 rfl ?_
 refine qm rfl<|qv rfl (Qvb (c := p0) (d := 1#64) rfl rfl)<|qp rfl (Qac rfl) (fun c1 => ?_) (fun c1 => ?_)
 · replace hm := iT c1 hm
   refine qm rfl<|qv rfl (Qs5 (c := p0) (d := 4294967296#64) rfl rfl)<|qm rfl<|qm rfl<|Qa1<|Qag ?_
   cases hm
   refine ⟨_, _, rfl, Qb1 rfl (Qab rfl), ?_⟩
   exact ⟨rfl, (Gr.refl w)⟩
 replace hm := iF c1 hm
 refine qk rfl<|qk rfl<|qm rfl<|qm rfl<|Qa1<|Qag ?_
 cases hm
 refine ⟨_, _, rfl, Qb1 rfl (Qab rfl), ?_⟩
 exact ⟨rfl, (Gr.refl w)⟩
theorem Qvo {p0 p1 p2 r} (hm : Qka p0 p1 p2 = some r) {w : World} :
    Calls Tryz.prog 180 [wv p0, wv p1, wv p2].toArray w fun e w' => ∃ v, e = .returned v ∧ (v = .tuple [wv r.1, .int .i64 r.2].toArray ∧ Gr w w') := by
 unfold Qka at hm
 refine Qa5 15 Tryz.func180 rfl rfl rfl<|qs 2 rfl<|qm rfl<|qm rfl<|Qa1<|Qa3 ?_
 refine qs 3 rfl<|qm rfl ?_
 obtain ⟨x1, a, hm⟩ := bnd hm
 refine qe rfl (eC Xl7 rfl (Qpl a)) ?_
 rintro _ w1 ⟨rfl, G1⟩
 refine qv rfl (Qci rfl)<|Qa1<|Qam rfl (fun c1 => ?_) (fun c1 => ?_)
 · replace hm := Qc8 c1 hm
   refine qs 2 rfl<|qm rfl<|qm rfl<|Qa1<|Qag<|Qb2 ?_
   have X2 := ((Gr.refl w).trans G1)
   cases hm
   refine ⟨_, _, rfl, Qbk rfl (Qab rfl) (Qab rfl), ?_⟩
   exact ⟨rfl, X2⟩
 replace hm := Qc7 c1 hm
 refine qu<|qs 6 rfl<|qm rfl<|qm rfl<|qm rfl ?_
 obtain ⟨x2, b, hm⟩ := bnd hm
 refine qe rfl (eC Xm9 rfl (Qrh b)) ?_
 rintro _ w2 ⟨rfl, G2⟩
 refine qm rfl<|qm rfl<|Qa1<|Qag ?_
 have X4 := (((Gr.refl w).trans G1).trans G2)
 cases hm
 refine ⟨_, _, rfl, Qbk rfl (Qab rfl) (Qab rfl), ?_⟩
 exact ⟨rfl, X4⟩
theorem Ql9 {p0 p1 p2 r} (hm : Qjm p0 p1 p2 = some r) {w : World} :
    Calls Tryz.prog 101 [.agg (Qa7.cs p0).toArray, wv p1, wv p2].toArray w fun e w' => ∃ v, e = .returned v ∧ (v = wv r ∧ Gr w w') := by
 unfold Qjm at hm
 refine Qa5 19 Tryz.func101 rfl rfl rfl<|qs 2 rfl<|qe rfl (Qaq (cs := Qa7.cs p0) rfl rfl) ?_
 rintro _ w1 ⟨b1, rfl, c, a, G1⟩
 refine qm rfl<|qd 11 rfl<|qm rfl<|qm rfl<|qv rfl (Qa0 Qk5 rfl) ?_
 refine qv rfl (Qa0 Qqg rfl)<|qv rfl (Qa2 (v := wv p0.Group.P) Qb5 rfl a rfl) ?_
 obtain ⟨x1, b, hm⟩ := bnd hm
 refine qe rfl (eC Xrd rfl (Qvo b)) ?_
 rintro _ w2 ⟨rfl, G2⟩
 refine qm rfl<|qm rfl<|qm rfl<|qm rfl<|qm rfl<|Qa1<|Qa3 ?_
 refine qg 2 rfl<|qm rfl<|qm rfl<|Qa1<|Qag ?_
 have X4 := (((Gr.refl w).trans G1).trans G2)
 cases hm
 refine ⟨_, _, rfl, Qb1 rfl (Qab rfl), ?_⟩
 exact ⟨rfl, X4⟩
theorem Quz {p0 p1 p2 r} (hm : Qj0 p0 p1 p2 = some r) {w : World} :
    Calls Tryz.prog 109 [wv p0, wv p1, wv p2].toArray w fun e w' => ∃ v, e = .returned v ∧ (v = wv r ∧ Gr w w') := by
 unfold Qj0 at hm
 refine Qa5 14 Tryz.func109 rfl rfl rfl<|qs 1 rfl<|qm rfl<|qd 8 rfl ?_
 refine qm rfl<|qm rfl<|qv rfl (Qtn (a := p1) (b := p0) rfl rfl)<|qm rfl<|qv rfl (Qyx (a := p1 + p0) (b := p2) rfl rfl)<|qm rfl ?_
 obtain ⟨x1, f, hm⟩ := bnd hm
 refine qv rfl (Qle (c := (p1 + p0) - p2) (d := p0) rfl rfl f)<|qm rfl<|Qa1<|Qag ?_
 cases hm
 refine ⟨_, _, rfl, Qb1 rfl (Qab rfl), ?_⟩
 exact ⟨rfl, (Gr.refl w)⟩
theorem Qwt {p0 p1 r} (hm : Qim p0 p1 = some r) {w : World} :
    Calls Tryz.prog 185 [wv p0, wv p1].toArray w fun e w' => ∃ v, e = .returned v ∧ (v = .tuple [wv r.1, .int .i64 r.2].toArray ∧ Gr w w') := by
 unfold Qim at hm
 refine Qa5 50 Tryz.func185 rfl rfl rfl<|qs 2 rfl<|qm rfl<|qm rfl<|Qa1<|Qa3 ?_
 refine qs 3 rfl<|qm rfl ?_
 obtain ⟨x1, n, hm⟩ := bnd hm
 refine qe rfl (eC Xl7 rfl (Qpl n)) ?_
 rintro _ w1 ⟨rfl, G1⟩
 refine qv rfl (Qci rfl)<|Qa1<|Qam rfl (fun c1 => ?_) (fun c1 => ?_)
 · replace hm := Qc8 c1 hm
   refine qs 2 rfl<|qm rfl<|qm rfl<|Qa1<|Qag<|Qb2 ?_
   have X2 := ((Gr.refl w).trans G1)
   cases hm
   refine ⟨_, _, rfl, Qbk rfl (Qab rfl) (Qab rfl), ?_⟩
   exact ⟨rfl, X2⟩
 replace hm := Qc7 c1 hm
 refine qu<|Qa3<|dw [([])] [] (.leaf [(0,10),(1,10),(2,10),(3,10),(4,10),(5,10),(6,10),(7,10)]) ?_
 intro w2 G2 q
 refine Qal<|dm 0 rfl rfl<|dh 0 rfl rfl (fun w hS => Qwb Qwv rfl)<|dm 0 rfl rfl<|dm 0 rfl rfl ?_
 obtain ⟨x2, o, hm⟩ := bnd hm
 refine dh 0 rfl rfl (fun w hS => Qle (c := p0) (d := p1) rfl rfl o)<|dh 0 rfl rfl (fun w hS => Qwb Qwv rfl)<|dm 0 rfl rfl<|dm 0 rfl rfl<|qd 2 rfl ?_
 refine qm rfl<|qm rfl<|Qa1<|Qa3<|Qan ?_
 have X3 := (((Gr.refl w).trans G1).trans G2)
 refine Qbj (α := Nat × Int × Int × Int × Int) (rg 6 5 ++ rg 20 17) (fun ⟨n1, a7, a8, a9, f⟩ => [(6, .int .i64 a7), (7, .int .i64 a8), (8, .int .i64 a9), (9, .int .i64 f)]) (fun ⟨n1, a7, a8, a9, f⟩ wr => (Qc3 (Qfs p1) n1 (a7, a8, a9, f) = some r) ∧ Kz [] w2 wr) (fun ⟨n1, a7, a8, a9, f⟩ => n1) ⟨Qcw, w64 (un p1), w64 (un x2), 0, 1⟩ ?_ ?_ ?_
 · exact sbq
 · exact ⟨hm, Kz.refl _ _⟩
 clear hm; rintro ⟨n1, a7, a8, a9, f⟩ w3 ⟨hm, K3⟩
 have hb := Qbv hm; clear hm; obtain ⟨n1, rfl, hm⟩ := hb
 generalize h : Qc3 (Qfs p1) n1 = p at hm
 unfold Qfs at hm
 try dsimp only at hm
 refine Qa3<|qs 2 rfl<|qm rfl<|qv rfl (Qc2 (a := a8) (b := 0) rfl rfl)<|Qa1<|Qam rfl (fun c2 => ?_) (fun c2 => ?_)
 · replace hm := iT c2 hm
   refine qu<|Qan<|qs 4 rfl<|qm rfl<|qm rfl ?_
   obtain ⟨g, i, hm⟩ := bnd hm
   refine qv rfl (Qo6 (a := a7) (b := a8) rfl rfl i)<|qm rfl<|qd 8 rfl<|qm rfl<|qm rfl ?_
   refine qm rfl<|qm rfl<|qv rfl (Qjl (k := .i64) (a := g) (b := a8) rfl rfl)<|qv rfl (Qi7 (k := .i64) (a := a7) (b := w64 (g * a8)) rfl rfl)<|qm rfl<|qm rfl<|Qa1 ?_
   refine qg 8 rfl<|qm rfl<|qm rfl<|qm rfl<|qm rfl<|qv rfl (Qjl (k := .i64) (a := g) (b := f) rfl rfl)<|qv rfl (Qi7 (k := .i64) (a := a9) (b := w64 (g * f)) rfl rfl) ?_
   refine qm rfl<|qm rfl<|Qa9<|Qay ?_
   have K_5 : Kz [] w2 w3 := K3
   subst h
   exact ⟨rfl, ⟨n1, a8, w64 (a7 - (w64 (g * a8))), f, w64 (a9 - (w64 (g * f)))⟩, sbq, ⟨hm, K_5⟩, Nat.lt_succ_self _⟩
 replace hm := iF c2 hm
 refine Qbp<|Qb4<|Qb4<|Qbq<|Qaz<|Qa3<|Qa3 ?_
 refine qg 2 rfl<|qm rfl<|qv rfl (Qc2 (a := a7) (b := 1) rfl rfl)<|Qa1<|Qam rfl (fun c3 => ?_) (fun c3 => ?_)
 · replace hm := iT c3 hm
   refine qs 2 rfl<|qm rfl<|qm rfl<|Qa1<|Qag<|Qb2 ?_
   have X6 := (X3.kz K3)
   cases hm
   refine ⟨_, _, rfl, Qbk rfl (Qab rfl) (Qab rfl), ?_⟩
   exact ⟨rfl, X6⟩
 replace hm := iF c3 hm
 refine qu<|qs 13 rfl<|qm rfl<|qm rfl<|qv rfl (Qwb Qwv rfl) ?_
 obtain ⟨j, l, hm⟩ := bnd hm
 refine qv rfl (Qjv (a := a9) (b := w64 (un p1)) rfl rfl l)<|qm rfl<|qv rfl (Qwb Qwv rfl)<|qv rfl (Qce (k := .i64) (a := j) (b := w64 (un p1)) rfl rfl)<|qm rfl<|qv rfl (Qwb Qwv rfl) ?_
 obtain ⟨s, m, hm⟩ := bnd hm
 refine qv rfl (Qjv (a := w64 (j + (w64 (un p1)))) (b := w64 (un p1)) rfl rfl m)<|qv rfl (Qfe Xn7 rfl)<|qm rfl<|qm rfl<|Qa1<|Qag ?_
 have X7 := (X3.kz K3)
 cases hm
 refine ⟨_, _, rfl, Qbk rfl (Qab rfl) (Qab rfl), ?_⟩
 exact ⟨rfl, X7⟩
theorem Qus {p0 p1 p2 r} (hm : Qiv p0 p1 p2 = some r) {w : World} :
    Calls Tryz.prog 110 [wv p0, wv p1, wv p2].toArray w fun e w' => ∃ v, e = .returned v ∧ (v = wv r ∧ Gr w w') := by
 unfold Qiv at hm
 refine Qa5 20 Tryz.func110 rfl rfl rfl<|qs 1 rfl<|qm rfl<|qd 8 rfl ?_
 refine qm rfl<|qm rfl ?_
 obtain ⟨x1, a, hm⟩ := bnd hm
 refine qe rfl (eC Xpg rfl (Qwt a)) ?_
 rintro _ w1 ⟨rfl, G1⟩
 refine qm rfl<|qm rfl<|qm rfl<|qm rfl<|qm rfl<|Qa1<|Qa3 ?_
 refine qg 6 rfl<|qm rfl<|qm rfl<|qm rfl<|qe rfl (Qdk [p1, x1.1] uwc Qqi rfl rfl (Qjr rfl) rfl rfl rfl) ?_
 rintro f w2 ⟨g, d, b, G2⟩
 obtain ⟨x2, c, hm⟩ := bnd hm
 refine qe rfl (eC Xat rfl (Qhb c (Own.rd b))) ?_
 rintro _ w3 ⟨rfl, G3⟩
 refine qm rfl<|Qa1<|Qag ?_
 have X5 := ((((Gr.refl w).trans G1).trans G2).trans G3)
 cases hm
 refine ⟨_, _, rfl, Qb1 rfl (Qab rfl), ?_⟩
 exact ⟨rfl, X5⟩
theorem Qo7 {p0 r} (hm : Ql8 p0 = some r) {w : World} :
    Calls Tryz.prog 105 [wv p0].toArray w fun e w' => ∃ v, e = .returned v ∧ (v = kv r ∧ Gr w w') := by
 unfold Ql8 at hm
 refine Qa5 6 Tryz.func105 rfl rfl rfl<|qs 1 rfl<|qe rfl (Qa8 (cs := kb k0) Qeo rfl) ?_
 rintro _ w1 ⟨b1, rfl, c, a, G1⟩
 refine qd 4 rfl<|qv rfl (Qe8 Qpx)<|qm rfl<|qe rfl (eC Qpe rfl (Qes k0 (un8 42#8) (Qiy _) (Qiw _) p0 _)) ?_
 rintro _ w2 ⟨rfl, G2⟩
 have B4 := (a.gr G2)
 refine qe rfl (Qaj Qak rfl rfl rfl B4 rfl rfl) ?_
 rintro _ w3 ⟨b, M3⟩
 refine Qa1<|Qag ?_
 have X6 := ((((Gr.refl w).trans G1).trans G2).md M3)
 cases hm
 refine ⟨_, _, rfl, Qb1 rfl (Qap Qak rfl b rfl), ?_⟩
 exact ⟨rfl, X6⟩
theorem Xc2 {p0 p1 p2 vp1_1 zp1_1 gp1_1 op1_1 vp2_0 zp2_0 gp2_0 op2_0 vp2_2 zp2_2 gp2_2 op2_2 r} (hm : Qmq p0 p1 p2 = some r) {w : World} (x : Rd w zp1_1 gp1_1 op1_1 18 vp1_1 (p1.Labels.map Qb8.cs)) (y : Rd w zp2_0 gp2_0 op2_0 18 vp2_0 (p2.Items.map Qcc.cs)) (z : Rd w zp2_2 gp2_2 op2_2 2 vp2_2 (p2.Points.map Qah.cs)) :
    Calls Tryz.prog 50 [.agg (Qa7.cs p0).toArray, .agg (Qae.cs p1 vp1_1).toArray, .agg (Qaa.cs p2 vp2_0 vp2_2).toArray].toArray w fun e w' => ∃ v, e = .returned v ∧ (v = .tuple [kv r.1, .int .i64 r.2].toArray ∧ Gr w w') := by
 have bG := x.lth
 have bH := y.lth
 have bI := z.lth
 unfold Qmq at hm
 refine Qa5 111 Tryz.func50 rfl rfl rfl<|qs 5 rfl<|qe rfl (Qaq (cs := Qa7.cs p0) rfl rfl) ?_
 rintro _ w1 ⟨b1, rfl, cE, al, G1⟩
 have c0 := al.lt
 refine qe rfl (Qaq (cs := Qae.cs p1 vp1_1) rfl rfl) ?_
 rintro _ w2 ⟨b2, rfl, cF, am, G2⟩
 have c8 := am.lt
 refine qe rfl (Qaq (cs := Qaa.cs p2 vp2_0 vp2_2) rfl rfl) ?_
 rintro _ w3 ⟨b3, rfl, cG, an, G3⟩
 have c9 := an.lt
 refine qe rfl (Qa8 (cs := kb k0) Qeo rfl) ?_
 rintro _ w4 ⟨b4, rfl, cH, t, G4⟩
 have cI := t.lt
 refine qm rfl<|Qa1<|Qa3<|qs 3 rfl ?_
 have Y1 := Gr.trans (Gr.trans G2 G3) G4
 have ao := (al.gr Y1)
 refine qv rfl (Qa4 Qcn rfl ao rfl) ?_
 obtain ⟨x1, bJ, hm⟩ := bnd hm
 refine qe rfl (eC Xkz rfl (Qnb bJ)) ?_
 rintro _ w5 ⟨rfl, G5⟩
 have da := G5.size
 refine qv rfl (Qci rfl)<|Qa1<|Qam rfl (fun c1 => ?_) (fun c1 => ?_)
 · replace hm := Qc8 c1 hm
   refine qs 3 rfl<|qv rfl (Qe8 Qpx) ?_
   have bK := (t.gr G5)
   refine qe rfl (Qaj Qak rfl rfl rfl bK rfl rfl) ?_
   rintro _ w6 ⟨bL, M6⟩
   refine qm rfl<|qb ?_
   have Y2 := Gr.trans (Gr.trans G1 Y1) G5
   have bM := (((Gr.refl w).trans Y2).md M6)
   cases hm
   refine ⟨_, _, rfl, Qbk rfl (Qap Qak rfl bL rfl) (Qab rfl), ?_⟩
   exact ⟨rfl, bM⟩
 replace hm := Qc7 c1 hm
 refine qu<|Qa3<|qs 5 rfl ?_
 have ap := (ao.gr G5)
 refine qv rfl (Qa4 Qcn rfl ap rfl) ?_
 have Y3 := Gr.trans (Gr.trans G3 G4) G5
 have aq := (am.gr Y3)
 refine qv rfl (Qa4 Qeg rfl aq rfl) ?_
 have Y4 := Gr.trans G4 G5
 have ar := (an.gr Y4)
 refine qv rfl (Qa4 Qcs rfl ar rfl) ?_
 have Y5 := Gr.trans (Gr.trans G1 Y1) G5
 have au := (x.gr Y5)
 have av := (y.gr Y5)
 have aw := (z.gr Y5)
 obtain ⟨x2, bN, hm⟩ := bnd hm
 refine qe rfl (eC Xq4 rfl (Xbw bN au av aw)) ?_
 rintro _ w7 ⟨rfl, G7⟩
 have db := G7.size
 refine qv rfl (Qci rfl)<|Qa1<|Qam rfl (fun c2 => ?_) (fun c2 => ?_)
 · replace hm := Qc8 c2 hm
   refine qs 3 rfl<|qv rfl (Qe8 Qpx) ?_
   have Y6 := Gr.trans G5 G7
   have bO := (t.gr Y6)
   refine qe rfl (Qaj Qak rfl rfl rfl bO rfl rfl) ?_
   rintro _ w8 ⟨bP, M8⟩
   refine qm rfl<|qb ?_
   have bQ := ((((Gr.refl w).trans Y5).trans G7).md M8)
   cases hm
   refine ⟨_, _, rfl, Qbk rfl (Qap Qak rfl bP rfl) (Qab rfl), ?_⟩
   exact ⟨rfl, bQ⟩
 replace hm := Qc7 c2 hm
 refine qu<|Qa3<|dw [([])] [] (.leaf [(0,10),(1,10),(2,10),(3,10),(4,10),(5,10),(6,10),(7,10),(8,10),(12,10),(13,10),(9,0),(10,10),(11,0),(14,0),(15,10)]) ?_
 intro w9 G9 dc
 refine Qal<|dh 0 rfl rfl (fun w hS => Qa0 Qyz rfl)<|dh 0 rfl rfl (fun w hS => Qa0 Qo4 rfl) ?_
 have Y7 := Gr.trans G7 G9
 have ax := (aq.gr Y7)
 refine dh 0 rfl rfl (fun w hS => Qa2 (v := wv p1.Share.X) Qb5 rfl (Bx.kp ax hS) rfl) ?_
 have ay := (ap.gr Y7)
 refine dh 0 rfl rfl (fun w hS => Qa4 Qcn rfl (Bx.kp ay hS) rfl)<|dh 0 rfl rfl (fun w hS => Qa0 Qou rfl) ?_
 have F := (ar.gr Y7)
 refine dh 0 rfl rfl (fun w hS => Qa2 (v := wv p2.Base) Qb5 rfl (Bx.kp F hS) rfl)<|dh 0 rfl rfl (fun w hS => Qa0 Qyz rfl)<|dh 0 rfl rfl (fun w hS => Qa0 Qu2 rfl)<|dh 0 rfl rfl (fun w hS => Qa2 (v := wv p1.Share.Y) Qb5 rfl (Bx.kp ax hS) rfl)<|dh 0 rfl rfl (fun w hS => Qa0 Qgi rfl)<|dh 0 rfl rfl (fun w hS => Qa2 (v := vp2_2) Qix rfl (Bx.kp F hS) rfl) ?_
 obtain ⟨x3, bR, hm⟩ := bnd hm
 refine qz [] rfl (eC Qzp rfl (Ql9 bR)) ⟨fun _ => tk0, trivial⟩ ?_
 rintro _ de ⟨rfl, A⟩
 have df := A.size
 refine kG A ?_
 have az := ((Kp.refl ([]) w9).gr A)
 refine qh 0 rfl rfl az (fun w hS => Qas (cs := Qah.cs (Qah.mk p1.Share.X x3)) Xin rfl rfl)<|qz [] rfl (Qdk [(Qah.mk p1.Share.X x3)] Qah.cs Qt2 rfl rfl (Qjr rfl) rfl rfl rfl) ⟨fun _ => tk0, trivial⟩ ?_
 rintro cJ dg ⟨d, bS, aA, B⟩
 have di := B.size
 refine kG B ?_
 have Y8 := Gr.trans (Gr.trans Y7 A) B
 have aB := (aw.gr Y8)
 obtain ⟨l4, bT, hm⟩ := bnd hm
 refine qz [(1, d)] rfl (Qk1 (l := [(Qah.mk p1.Share.X x3)]) (m := p2.Points) (c := Qah.cs) Qxr rfl rfl aA aB bT (by decide)) ⟨fun _ => (tk1 ((.inr tk0) : 1 = 0 ∨ w9.heap.size ≤ d)), trivial⟩ ?_
 rintro cK dj ⟨cL, cM, N, f, aC, cN⟩
 have dk := f.size
 refine ⟨Kz.ofKa f, ?_⟩
 have bU := ((az.gr B).ka f (tk1 ((.inr tk0) : 1 = 0 ∨ w9.heap.size ≤ d)))
 refine dn 0 rfl rfl bU<|Qa1<|Qa3<|qs 3 rfl<|qm rfl ?_
 obtain ⟨x5, bV, hm⟩ := bnd hm
 refine qe rfl (eC Xm2 rfl (Qqk bV (Own.rd N))) ?_
 rintro _ aD ⟨rfl, g⟩
 have dl := g.size
 refine qv rfl (Qci rfl)<|Qa1<|Qam rfl (fun c3 => ?_) (fun c3 => ?_)
 · replace hm := Qc8 c3 hm
   refine qs 3 rfl<|qv rfl (Qe8 Qpx) ?_
   have Y9 := Gr.trans G5 Y8
   have bW := (((t.gr Y9).ka f (tk1 ((.inr tk0) : 1 = 0 ∨ d ≠ b4))).gr g)
   refine qe rfl (Qaj Qak rfl rfl rfl bW rfl rfl) ?_
   rintro _ dp ⟨aE, bX⟩
   refine qm rfl<|qb ?_
   have bY := ((((((Gr.refl w).trans Y5).trans Y8).ka f (tk1 ((.inr tk0) : 1 = 0 ∨ w.heap.size ≤ d))).trans g).md bX)
   cases hm
   refine ⟨_, _, rfl, Qbk rfl (Qap Qak rfl aE rfl) (Qab rfl), ?_⟩
   exact ⟨rfl, bY⟩
 replace hm := Qc7 c3 hm
 refine qu<|qs 5 rfl<|qv rfl (Qa0 Qk5 rfl)<|qv rfl (Qa0 Qmo rfl) ?_
 have V := Gr.trans A B
 have aF := (((ay.gr V).ka f (tk1 ((.inr tk0) : 1 = 0 ∨ d ≠ b1))).gr g)
 refine qv rfl (Qa2 (v := wv p0.Group.Q) Qb5 rfl aF rfl)<|qm rfl<|qm rfl<|Qa1<|Qa3<|qs 3 rfl ?_
 refine qm rfl ?_
 have aG := (N.gr g)
 refine qv rfl (Qbi (l := l4) (c := Qah.cs) Tryz.underlying46 rfl (Own.rd aG))<|qm rfl<|Qa1<|Qan ?_
 have bZ := (((((Gr.refl w).trans Y5).trans Y8).ka f (tk1 ((.inr tk0) : 1 = 0 ∨ w.heap.size ≤ d))).trans g)
 have dq := (((au.gr Y8).ka f (tk1 ((Qld (.inr (tk1 bG.o))) : zp1_1 = 0 ∨ 1 = 0 ∨ gp1_1 ≠ d))).gr g)
 have dr := (((av.gr Y8).ka f (tk1 ((Qld (.inr (tk1 bH.o))) : zp2_0 = 0 ∨ 1 = 0 ∨ gp2_0 ≠ d))).gr g)
 have ds := ((aB.ka f (tk1 ((Qld (.inr (tk1 bI.o))) : zp2_2 = 0 ∨ 1 = 0 ∨ gp2_2 ≠ d))).gr g)
 refine Qbj (α := Nat × BitVec 64 × Int) (rg 10 7 ++ rg 52 47) (fun ⟨n1, a8, a9⟩ => [(10, wv a8), (52, .int .i64 a9)]) (fun ⟨n1, a8, a9⟩ wr => (Qc3 (Qgu p0 p2 l4) n1 (a8, a9) = some r) ∧ Kz [] aD wr) (fun ⟨n1, a8, a9⟩ => n1) ⟨Qcw, 1#64, 0⟩ ?_ ?_ ?_
 · exact sbq
 · exact ⟨hm, Kz.refl _ _⟩
 clear hm; rintro ⟨n1, a8, a9⟩ aH ⟨hm, n⟩
 have dt := n.size
 have hb := Qbv hm; clear hm; obtain ⟨n1, rfl, hm⟩ := hb
 generalize W : Qc3 (Qgu p0 p2 l4) n1 = O at hm
 unfold Qgu at hm
 try dsimp only at hm
 refine qs 1 rfl<|qv rfl (Qcd (a := a9) (b := (l4.length : Int)) rfl rfl)<|Qa1<|Qa3<|cnF rfl (fun c4 => ?_) (fun c4 => ?_)
 · replace hm := iF c4 hm
   refine Qbp<|Qb4<|Qb4<|Qbq<|Qaz ?_
   have aI := (bZ.kz n)
   refine qj (β := W2 × Nat) ([17] ++ rg 99 5) (fun ⟨u, bq24⟩ => [(17, .pointer (some ⟨bq24, 0, none⟩))]) (fun ⟨u, bq24⟩ wr => (Ql6 p2 u = some r) ∧ Bx wr bq24 23 (kb u) ∧ aH.heap.size ≤ bq24 ∧ Kz [] aH wr) ?_ ?_
   · refine dw [([])] [] (.fork [(0,10),(2,10),(3,10)] (.fork [(1,0)] (.leaf [(4,0),(5,0),(6,0)]) (.leaf [(5,0),(4,0),(6,0)])) (.leaf [(5,0),(1,0),(4,0),(6,0)])) ?_
     intro du G cO
     refine Qbc<|dm 0 rfl rfl<|dh 0 rfl rfl (fun w hS => Qa0 Qry rfl) ?_
     have b0 := (((((F.gr V).ka f (tk1 ((.inr tk0) : 1 = 0 ∨ d ≠ b3))).gr g).kz n).gr G)
     refine dh 0 rfl rfl (fun w hS => Qb6 (vs := kb p2.Box) Qak rfl (Bx.kp b0 hS) rfl rfl)<|Qbt ?_ ?_
     · refine Qbc ?_
       obtain ⟨H, aJ, hm⟩ := bnd hm
       refine qz [] rfl (eC Xgb rfl (Qo7 aJ)) ⟨fun _ => tk0, trivial⟩ ?_
       rintro _ dv ⟨rfl, I⟩
       have dy := I.size
       refine kG I<|Qbt ?_ ?_
       · refine Qal<|qz [] rfl (eC Xe4 rfl (Xe7 H p2.Box _)) ⟨fun _ => tk0, trivial⟩ ?_
         rintro _ dz ⟨rfl, Z⟩
         have dA := Z.size
         refine kG Z<|qz [] rfl (Qa8 (cs := kb k0) Qeo rfl) ⟨fun _ => tk0, trivial⟩ ?_
         rintro _ dB ⟨aK, rfl, b5, aL, aM⟩
         refine kG aM<|qz [(1, aK)] rfl (Qaj Qak rfl rfl rfl aL rfl rfl) ⟨fun _ => tk0, trivial⟩ ?_
         rintro _ dC ⟨aN, aO⟩
         refine kM aO<|Qa9 ?_
         exact ⟨rfl, ⟨Xet H p2.Box, aK⟩, sbq, hm, aN, (by omega), (((((kz0.gr G).gr I).gr Z).gr aM).md aO)⟩
       refine Qal<|qz [] rfl (Qa8 (cs := kb k0) Qeo rfl) ⟨fun _ => tk0, trivial⟩ ?_
       rintro _ dD ⟨aP, rfl, b6, aQ, aR⟩
       refine kG aR<|qz [] rfl (eC Xe4 rfl (Xe7 H p2.Box _)) ⟨fun _ => tk0, trivial⟩ ?_
       rintro _ dE ⟨rfl, aa⟩
       refine kG aa ?_
       have aS := (aQ.gr aa)
       refine qz [(1, aP)] rfl (Qaj Qak rfl rfl rfl aS rfl rfl) ⟨fun _ => tk0, trivial⟩ ?_
       rintro _ dF ⟨aT, aU⟩
       refine kM aU<|Qa9 ?_
       exact ⟨rfl, ⟨Xet H p2.Box, aP⟩, sbq, hm, aT, (by omega), (((((kz0.gr G).gr I).gr aR).gr aa).md aU)⟩
     refine Qal<|qz [] rfl (Qa8 (cs := kb k0) Qeo rfl) ⟨fun _ => tk0, trivial⟩ ?_
     rintro _ dG ⟨aV, rfl, b7, aW, aX⟩
     refine kG aX ?_
     obtain ⟨aY, aZ, hm⟩ := bnd hm
     refine qz [] rfl (eC Xgb rfl (Qo7 aZ)) ⟨fun _ => tk0, trivial⟩ ?_
     rintro _ dH ⟨rfl, ab⟩
     refine kG ab<|qz [] rfl (eC Xe4 rfl (Xe7 aY p2.Box _)) ⟨fun _ => tk0, trivial⟩ ?_
     rintro _ dI ⟨rfl, ac⟩
     refine kG ac ?_
     have a0 := ((aW.gr ab).gr ac)
     refine qz [(1, aV)] rfl (Qaj Qak rfl rfl rfl a0 rfl rfl) ⟨fun _ => tk0, trivial⟩ ?_
     rintro _ dJ ⟨a1, a2⟩
     refine kM a2<|Qa9 ?_
     exact ⟨rfl, ⟨Xet aY p2.Box, aV⟩, sbq, hm, a1, (by omega), (((((kz0.gr G).gr aX).gr ab).gr ac).md a2)⟩
   clear hm; rintro ⟨u, bq24⟩ dK ⟨hm, J, bF, C⟩
   unfold Ql6 at hm
   refine Qa3<|Qa3<|dw [([])] [] (.leaf [(0,10),(2,10),(3,10),(1,0),(4,10)]) ?_
   intro b8 K cP
   refine Qal ?_
   have a3 := (J.gr K)
   refine dh 0 rfl rfl (fun w hS => Qa4 Qak rfl (Bx.kp a3 hS) rfl)<|dh 0 rfl rfl (fun w hS => Qa0 Qtf rfl) ?_
   have b9 := ((((((F.gr V).ka f (tk1 ((.inr tk0) : 1 = 0 ∨ d ≠ b3))).gr g).kz n).kz C).gr K)
   refine dh 0 rfl rfl (fun w hS => Qb6 (vs := kb p2.Check) Qak rfl (Bx.kp b9 hS) rfl rfl)<|qz [] rfl (eC Qpe rfl (Qes u (un8 53#8) (Qiy _) (Qiw _) 0#64 _)) ⟨fun _ => tk0, trivial⟩ ?_
   rintro _ dL ⟨rfl, D⟩
   refine kG D ?_
   have ca := ((Kp.refl ([]) b8).gr D)
   refine qh 0 rfl rfl ca (fun w hS => Qmu (cf := kb) (a := drv u (un8 53#8) 0#64) (b := p2.Check) Qqd rfl rfl rfl rfl (fun h => Qng h))<|Qa1<|Qam rfl (fun c7 => ?_) (fun c7 => ?_)
   · replace hm := iT c7 hm
     refine qs 3 rfl<|qv rfl (Qe8 Qpx) ?_
     have cb := Gr.trans G5 Y8
     have a4 := Gr.trans K D
     have cc := ((((((t.gr cb).ka f (tk1 ((.inr tk0) : 1 = 0 ∨ d ≠ b4))).gr g).kz n).kz C).gr a4)
     refine qe rfl (Qaj Qak rfl rfl rfl cc rfl rfl) ?_
     rintro _ dM ⟨a5, cd⟩
     refine qm rfl<|qb ?_
     have ce := (((aI.kz C).trans a4).md cd)
     cases hm
     refine ⟨_, _, rfl, Qbk rfl (Qap Qak rfl a5 rfl) (Qab rfl), ?_⟩
     exact ⟨rfl, ce⟩
   replace hm := iF c7 hm
   refine qu<|qs 3 rfl ?_
   have cg := (a3.gr D)
   refine qv rfl (Qa4 Qak rfl cg rfl) ?_
   have ch := Gr.trans G5 Y8
   have a6 := Gr.trans K D
   have ci := ((((((t.gr ch).ka f (tk1 ((.inr tk0) : 1 = 0 ∨ d ≠ b4))).gr g).kz n).kz C).gr a6)
   refine qe rfl (Qaj Qak rfl rfl rfl ci rfl rfl) ?_
   rintro _ dN ⟨a7, cj⟩
   refine qm rfl<|Qa1<|Qag ?_
   have ck := (((aI.kz C).trans a6).md cj)
   cases hm
   refine ⟨_, _, rfl, Qbk rfl (Qap Qak rfl a7 rfl) (Qab rfl), ?_⟩
   exact ⟨rfl, ck⟩
 replace hm := iT c4 hm
 refine qu<|Qa3<|Qan<|qs 6 rfl<|qm rfl ?_
 obtain ⟨L, R, hm⟩ := bnd hm
 have ad := (aG.kz n)
 refine qv rfl (Qf7 (i := a9) Tryz.underlying46 (Qgo).siz rfl (Own.rd ad) rfl R)<|qv rfl (Qhs Qgo rfl (Own.rd ad) R (by first | rfl | omega))<|qe rfl (Qa8 (cs := Qah.cs (Qah.mk 0#64 0#64)) Xcf rfl) ?_
 rintro _ dO ⟨dP, rfl, cl, S, ae⟩
 have cQ := S.lt
 refine qm rfl<|qe rfl (Qaj Qgo rfl rfl rfl S rfl rfl) ?_
 rintro _ af ⟨T, M⟩
 have dQ := M.size
 refine qd 2 rfl<|qm rfl<|qm rfl<|Qa1<|Qa3 ?_
 refine qs 3 rfl<|qm rfl ?_
 have ba := ((ad.gr ae).md M (Qau aC))
 refine qv rfl (Qbi (l := l4) (c := Qah.cs) Tryz.underlying46 rfl (Own.rd ba))<|qm rfl<|Qa1<|Qan ?_
 refine Qbj (α := Nat × BitVec 64 × BitVec 64 × Int) ([13, 14, 15, 16] ++ rg 59 25) (fun ⟨n2, q, s, j⟩ => [(13, wv q), (14, wv s), (59, .int .i64 j)]) (fun ⟨n2, q, s, j⟩ wr => (Qc3 (Qi0 p0 l4 a8 a9 O L) n2 (q, s, j) = some r) ∧ Kz [] af wr) (fun ⟨n2, q, s, j⟩ => n2) ⟨Qcw, 1#64, 1#64, 0⟩ ?_ ?_ ?_
 · exact sbq
 · exact ⟨hm, Kz.refl _ _⟩
 clear hm; rintro ⟨n2, q, s, j⟩ dR ⟨hm, p⟩
 have dS := p.size
 have hb := Qbv hm; clear hm; obtain ⟨n2, rfl, hm⟩ := hb
 generalize E : Qc3 (Qi0 p0 l4 a8 a9 O L) n2 = cR at hm
 unfold Qi0 at hm
 try dsimp only at hm
 refine qs 1 rfl<|qv rfl (Qcd (a := j) (b := (l4.length : Int)) rfl rfl)<|Qa1<|Qa3<|cnF rfl (fun c5 => ?_) (fun c5 => ?_)
 · replace hm := iF c5 hm
   refine Qbp<|Qb4<|Qb4<|Qbq<|Qaz<|dw [([])] [] (.leaf [(0,10),(1,10),(2,10),(3,10),(4,10),(5,10),(6,10),(7,10),(8,10),(9,10),(10,0),(11,0),(12,0),(13,0),(14,10)]) ?_
   intro cm ag cS
   refine Qal<|dh 0 rfl rfl (fun w hS => Qa0 Qk5 rfl)<|dh 0 rfl rfl (fun w hS => Qa0 Qqg rfl) ?_
   have bb := (((((aF.kz n).gr ae).md M).kz p).gr ag)
   refine dh 0 rfl rfl (fun w hS => Qa2 (v := wv p0.Group.P) Qb5 rfl (Bx.kp bb hS) rfl)<|dm 0 rfl rfl<|dh 0 rfl rfl (fun w hS => Qa4 Qcn rfl (Bx.kp bb hS) rfl)<|dh 0 rfl rfl (fun w hS => Qa0 Qu2 rfl) ?_
   have cn := ((T.kz p).gr ag)
   refine dh 0 rfl rfl (fun w hS => Qa2 (v := wv L.Y) Qb5 rfl (Bx.kp cn hS) rfl)<|dm 0 rfl rfl<|dm 0 rfl rfl<|dm 0 rfl rfl ?_
   obtain ⟨dT, bc, hm⟩ := bnd hm
   refine qz [] rfl (eC Xrz rfl (Qus bc)) ⟨fun _ => tk0, trivial⟩ ?_
   rintro _ dU ⟨rfl, bd⟩
   refine kG bd ?_
   obtain ⟨co, be, hm⟩ := bnd hm
   refine qz [] rfl (eC Qzp rfl (Ql9 be)) ⟨fun _ => tk0, trivial⟩ ?_
   rintro _ dV ⟨rfl, bf⟩
   refine kG bf<|qz [] rfl (Qdk [a8, co] uwc Qqi rfl rfl (Qjr rfl) rfl rfl rfl) ⟨fun _ => tk0, trivial⟩ ?_
   rintro cT dW ⟨cU, cp, bg, bh⟩
   refine kG bh ?_
   obtain ⟨cq, bi, hm⟩ := bnd hm
   refine qz [] rfl (eC Xat rfl (Qhb bi (Own.rd bg))) ⟨fun _ => tk0, trivial⟩ ?_
   rintro _ cr ⟨rfl, bj⟩
   refine kG bj ?_
   have bk := Gr.trans (Gr.trans (Gr.trans bd bf) bh) bj
   have ct := ((Kp.refl ([]) cm).gr bk)
   refine dn 0 rfl rfl ct<|Qa9<|Qay<|Qaz<|qg 2 rfl<|qv rfl (Qce (k := .i64) (a := a9) (b := 1) rfl rfl)<|qm rfl ?_
   refine Qa9 ?_
   have K_82 : Kz [] aD cr := (((((n.gr ae).md M).kz p).gr ag).gr bk)
   subst W
   exact ⟨rfl, ⟨n1, cq, w64 (a9 + 1)⟩, sbq, ⟨hm, K_82⟩, Nat.lt_succ_self _⟩
 replace hm := iT c5 hm
 refine qu<|Qa3<|Qan<|qs 6 rfl<|qm rfl ?_
 obtain ⟨ah, U, hm⟩ := bnd hm
 have bl := (ba.kz p)
 refine qv rfl (Qf7 (i := j) Tryz.underlying46 (Qgo).siz rfl (Own.rd bl) rfl U)<|qv rfl (Qhs Qgo rfl (Own.rd bl) U (by first | rfl | omega))<|qe rfl (Qa8 (cs := Qah.cs (Qah.mk 0#64 0#64)) Xcf rfl) ?_
 rintro _ dX ⟨dY, rfl, cu, bm, ai⟩
 refine qm rfl<|qe rfl (Qaj Qgo rfl rfl rfl bm rfl rfl) ?_
 rintro _ cv ⟨bo, aj⟩
 refine qd 3 rfl<|qm rfl<|qm rfl<|qv rfl (Qc2 (a := j) (b := a9) rfl rfl)<|Qa1 ?_
 refine cnF rfl (fun c6 => ?_) (fun c6 => ?_)
 · replace hm := iF c6 hm
   refine Qc4<|Qay<|Qaz<|qg 2 rfl<|qv rfl (Qce (k := .i64) (a := j) (b := 1) rfl rfl)<|qm rfl<|Qa9 ?_
   have K_73 : Kz [] af cv := ((p.gr ai).md aj)
   subst E
   exact ⟨rfl, ⟨n2, q, s, w64 (j + 1)⟩, sbq, ⟨hm, K_73⟩, Nat.lt_succ_self _⟩
 replace hm := iT c6 hm
 refine dw [([])] [] (.leaf [(0,10),(1,10),(2,10),(3,10),(6,10),(7,10),(8,10),(9,10),(10,10),(11,10),(12,10),(4,0),(5,0),(13,0),(14,0),(15,0),(16,10),(17,10)]) ?_
 intro cw ak cV
 refine Qal<|dm 0 rfl rfl<|dm 0 rfl rfl<|dh 0 rfl rfl (fun w hS => Qa0 Qo4 rfl) ?_
 have bp := (bo.gr ak)
 refine dh 0 rfl rfl (fun w hS => Qa2 (v := wv ah.X) Qb5 rfl (Bx.kp bp hS) rfl)<|dm 0 rfl rfl<|dm 0 rfl rfl<|dm 0 rfl rfl<|dh 0 rfl rfl (fun w hS => Qa0 Qo4 rfl)<|dh 0 rfl rfl (fun w hS => Qa2 (v := wv ah.X) Qb5 rfl (Bx.kp bp hS) rfl)<|dh 0 rfl rfl (fun w hS => Qa0 Qo4 rfl) ?_
 have cx := ((((T.kz p).gr ai).md aj).gr ak)
 refine dh 0 rfl rfl (fun w hS => Qa2 (v := wv L.X) Qb5 rfl (Bx.kp cx hS) rfl)<|qz [] rfl (Qdk [q, ah.X] uwc Qqi rfl rfl (Qjr rfl) rfl rfl rfl) ⟨fun _ => tk0, trivial⟩ ?_
 rintro cW dZ ⟨cX, cy, bq, br⟩
 refine kG br ?_
 obtain ⟨cz, bs, hm⟩ := bnd hm
 refine qz [] rfl (eC Xat rfl (Qhb bs (Own.rd bq))) ⟨fun _ => tk0, trivial⟩ ?_
 rintro _ d0 ⟨rfl, bu⟩
 refine kG bu ?_
 obtain ⟨cA, bw, hm⟩ := bnd hm
 refine qz [] rfl (eC Xrq rfl (Quz bw)) ⟨fun _ => tk0, trivial⟩ ?_
 rintro _ d1 ⟨rfl, bx⟩
 refine kG bx<|qz [] rfl (Qdk [s, cA] uwc Qqi rfl rfl (Qjr rfl) rfl rfl rfl) ⟨fun _ => tk0, trivial⟩ ?_
 rintro cY d2 ⟨cZ, cB, bz, bA⟩
 refine kG bA ?_
 obtain ⟨cC, bB, hm⟩ := bnd hm
 refine qz [] rfl (eC Xat rfl (Qhb bB (Own.rd bz))) ⟨fun _ => tk0, trivial⟩ ?_
 rintro _ cD ⟨rfl, bC⟩
 refine kG bC ?_
 have bD := Gr.trans (Gr.trans (Gr.trans (Gr.trans br bu) bx) bA) bC
 have bE := ((Kp.refl ([]) cw).gr bD)
 refine dn 0 rfl rfl bE<|dn 0 rfl rfl bE<|Qa9<|Qay<|Qaz<|qg 2 rfl<|qv rfl (Qce (k := .i64) (a := j) (b := 1) rfl rfl) ?_
 refine qm rfl<|Qa9 ?_
 have K_72 : Kz [] af cD := ((((p.gr ai).md aj).gr ak).gr bD)
 subst E
 exact ⟨rfl, ⟨n2, cz, cC, w64 (j + 1)⟩, sbq, ⟨hm, K_72⟩, Nat.lt_succ_self _⟩
end Go.Proofs.YtjdffpglgkefmaaGreat.Mx
