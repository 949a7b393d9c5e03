/- Walks that follow mirrors: Xh. Printed by mx.py. -/
import Derived.Test.YtjdffpglgkefmaaGreatXg
import Derived.Test.YtjdffpglgkefmaaGreatZd
set_option linter.unusedVariables false
set_option linter.unusedSimpArgs false
set_option maxRecDepth 100000
set_option maxHeartbeats 2000000
namespace Go.Proofs.YtjdffpglgkefmaaGreat.Mx
open Go Go.RowKit Go.Sx
theorem Xmd : ZV Tryz.prog 196 (.agg [.slice none 0 0, .bool false].toArray) := fun _ => by kernel_rfl
theorem Xm1 : BS Tryz.prog 196 (fun i => [(0, 1), (1, 1)][i]?) [.slice none 0 0, .bool false] := Qpb Tryz.underlying196 Xmd ⟨rfl, (Qg2).siz, rfl, (Qrn).siz, trivial⟩
theorem Qpp : FA Tryz.prog 196 0 0 := fun _ _ _ => by kernel_rfl
theorem Qrg : FA Tryz.prog 196 1 1 := fun _ _ _ => by kernel_rfl
theorem Xco : En Tryz.prog 130 := fun _ _ => by kernel_rfl
theorem Qs8 : En Tryz.prog 128 := fun _ _ => by kernel_rfl
theorem Qxr : CV Tryz.prog 24 3 .i64 := fun _ _ _ => by kernel_rfl
theorem Qt6 : En Tryz.prog 127 := fun _ _ => by kernel_rfl
theorem Qyr : BSl Tryz.prog 50 0 5 1 [] := Qxp Tryz.underlying50 (Qcd).siz
theorem Xle : En Tryz.prog 129 := fun _ _ => by kernel_rfl
theorem Xld : En Tryz.prog 131 := fun _ _ => by kernel_rfl
theorem Qpx : En Tryz.prog 135 := fun _ _ => by kernel_rfl
theorem Xmf : En Tryz.prog 132 := fun _ _ => by kernel_rfl
theorem Xgs : En Tryz.prog 133 := fun _ _ => by kernel_rfl
theorem Xh8 : En Tryz.prog 134 := fun _ _ => by kernel_rfl
theorem Qpt {p0 vp0_2 zp0_2 gp0_2 op0_2 vp0_4 zp0_4 gp0_4 op0_4 vp0_39 zp0_39 gp0_39 op0_39 r} (hm : Qip p0 = some r) {w : World} (i : Rd w zp0_2 gp0_2 op0_2 18 vp0_2 (p0.Head.Items.map Qbd.cs)) (j : Rd w zp0_4 gp0_4 op0_4 2 vp0_4 (p0.Head.Points.map Qag.cs)) (g : Rd w zp0_39 gp0_39 op0_39 1 vp0_39 (p0.Data.map bvc)) :
    Calls Tryz.prog 57 [.agg (Qa4.cs p0 vp0_2 vp0_4 vp0_39).toArray].toArray w fun e w' => ∃ v, e = .returned v ∧ (∃ ur0_s zr0_s gr0_s, v = .tuple [ur0_s, .int .i64 r.2].toArray ∧ Own w' zr0_s gr0_s 5 1 ur0_s (r.1.map bvc) ∧ Hdn (zr0_s = 0 ∨ w.heap.size ≤ gr0_s) ∧ Gr w w') := by
 have T := i.lth
 have U := j.lth
 have V := g.lth
 unfold Qip at hm
 refine Qa5 15 Tryz.func57 rfl rfl rfl<|qs 3 rfl<|qe rfl (Qat (cs := Qa4.cs p0 vp0_2 vp0_4 vp0_39) rfl rfl) ?_
 rintro _ w1 ⟨b1, rfl, Q, u, G1⟩
 have z4 := G1.size
 have W := u.lt
 refine qm rfl<|qm rfl<|Qa1<|Qa3<|qs 3 rfl<|qv rfl (Qa6 Qbu rfl u rfl) ?_
 have B6 := (i.gr G1)
 have B7 := (j.gr G1)
 have B8 := (g.gr G1)
 obtain ⟨x1, C, hm⟩ := bnd hm
 refine qe rfl (eC Xf8 rfl (Qgg C B6 B7 B8)) ?_
 rintro _ w2 ⟨rfl, G2⟩
 have z9 := G2.size
 refine qm rfl<|qd 2 rfl<|qm rfl<|qv rfl (Qby (a := x1) (b := 0) rfl rfl)<|Qa1 ?_
 refine Qal rfl (fun c1 => ?_) (fun c1 => ?_)
 · replace hm := iT c1 hm
   refine qs 3 rfl<|qm rfl<|qm rfl<|qm rfl<|Qa1<|Qaf ?_
   refine Qb2 ?_
   have D := (((Gr.refl w).trans G1).trans G2)
   cases hm
   refine ⟨_, _, rfl, Qbm rfl (Qac rfl) (Qac rfl), ?_⟩
   exact ⟨(.slice none 0 0), 0, 0, rfl, (Qaw _ 0 5 1), ⟨.inl rfl⟩, D⟩
 replace hm := iF c1 hm
 refine qu<|Qa3<|dw [([])] [] (.leaf [(0,10),(2,10),(3,10),(1,0),(4,0),(5,10),(6,10)]) ?_
 intro w3 G3 X
 refine Qam ?_
 have Y1 := Gr.trans G2 G3
 have y := (u.gr Y1)
 refine dh 0 rfl rfl (fun w hS => Qa6 Qbu rfl (Bx.kp y hS) rfl)<|dh 0 rfl rfl (fun w hS => Qa0 Qos rfl) ?_
 have t := Xbq (o := 40) (p := p0.Mac) y rfl
 have R := t.lth
 refine dh 0 rfl rfl (fun w hS => Qtp (n := 16) (l := 0) (h := 16) Tryz.underlying23 (Qcd).siz rfl rfl rfl (by decide) (by decide) (by decide)) ?_
 have E := (B6.gr Y1)
 have F := (B7.gr Y1)
 have G := (B8.gr Y1)
 obtain ⟨x2, H, hm⟩ := bnd hm
 refine qz [] rfl (eC Qyb rfl (Qhe H E F G)) ⟨fun _ => tk0, trivial⟩ ?_
 rintro z w4 ⟨_, k, q, rfl, f, d, G4⟩
 have Y := G4.size
 have S := f.lth
 refine kG G4 ?_
 have I := (t.gr G4)
 obtain ⟨l3, J, hm⟩ := bnd hm
 refine qz [(k, q)] rfl (Qfn (l := x2) (m := kby p0.Mac) (c := bvc) Qp7 rfl rfl f I J (by decide)) ⟨fun _ => (tk1 (Qbn (A := (fun x => w3.heap.size ≤ x)) d)), trivial⟩ ?_
 rintro K w5 ⟨L, M, N, s, Z, O⟩
 have aa := s.size
 refine ⟨Kz.ofKa s, ?_⟩
 have B := (((Kp.refl ([]) w3).gr G4).ka s (tk1 (Qbn (A := (fun x => w3.heap.size ≤ x)) d)))
 refine dn 0 rfl rfl B<|dn 0 rfl rfl B<|Qa1<|Qaf ?_
 have P := (((((Gr.refl w).trans G1).trans Y1).trans G4).ka s (tk1 (Qbn (A := (fun x => w.heap.size ≤ x)) d)))
 cases hm
 refine ⟨_, _, rfl, Qbm rfl (Qac rfl) (Qac rfl), ?_⟩
 exact ⟨K, L, M, rfl, N, ⟨(Qg4 (A := (fun x => w.heap.size ≤ x)) O (Qbn (A := (fun x => w.heap.size ≤ x)) d))⟩, P⟩
theorem Qii {p0 p1 bp0 vp0_0 zp0_0 gp0_0 op0_0 r} (hm : Qdt p0 p1 = some r) {w : World} (hbp0 : Bx w bp0 196 (Qab.cs p0 vp0_0)) (d : Rd w zp0_0 gp0_0 op0_0 1 vp0_0 (p0.b.map bvc)) (g : Hdn (zp0_0 = 0 ∨ gp0_0 ≠ bp0)) :
    Calls Tryz.prog 130 [.pointer (some ⟨bp0, 0, none⟩), .int .i64 p1].toArray w fun e w' => ∃ v, e = .returned v ∧ (∃ ur0_s zr0_s gr0_s or0_s ub1_0 zb1_0 gb1_0 ob1_0, v = ur0_s ∧ Rd w' zr0_s gr0_s or0_s 1 ur0_s (r.1.map bvc) ∧ Hdn (zr0_s = 0 ∨ (gr0_s = gp0_0 ∧ zp0_0 ≠ 0) ∨ w.heap.size ≤ gr0_s) ∧ Rd w' zb1_0 gb1_0 ob1_0 1 ub1_0 (r.2.b.map bvc) ∧ Hdn (zb1_0 = 0 ∨ (gb1_0 = gp0_0 ∧ zp0_0 ≠ 0) ∨ w.heap.size ≤ gb1_0) ∧ Bx w' bp0 196 (Qab.cs r.2 ub1_0) ∧ Kz [(1, bp0)] w w') := by
 have h := d.lth
 have E := hbp0.lt
 unfold Qdt at hm
 refine Qa5 37 Tryz.func130 rfl rfl rfl<|qs 1 rfl<|qm rfl<|Qa1<|Qa3<|Qa3 ?_
 refine qg 7 rfl<|qm rfl<|qm rfl<|qv rfl (Qcc rfl rfl)<|qv rfl (Qa0 Qpp rfl)<|qv rfl (Qa2 (v := vp0_0) Qg2 rfl hbp0 rfl)<|qv rfl (Qba (l := p0.b) (c := bvc) Tryz.underlying50 rfl d) ?_
 refine qv rfl (Qe8 (a := p1) (b := (p0.b.length : Int)) rfl rfl)<|Qa1<|Qal rfl (fun c1 => ?_) (fun c1 => ?_)
 · replace hm := iT c1 hm
   refine qs 8 rfl<|qm rfl<|qm rfl<|qv rfl (Qcc rfl rfl)<|qv rfl (Qa0 Qrg rfl)<|qe rfl (Qct (cs' := Qab.cs (Qab.mk p0.b true) vp0_0) (Qrn).siz rfl rfl rfl hbp0 rfl rfl) ?_
   rintro _ w1 ⟨k, M1⟩
   have z3 := M1.size
   refine qv rfl (Qcc rfl rfl)<|qv rfl (Qa0 Qpp rfl)<|qe rfl (Qct (cs' := Qab.cs (Qab.mk [] true) (.slice none 0 0)) (Qg2).siz rfl rfl rfl k rfl rfl) ?_
   rintro _ w2 ⟨m, M2⟩
   have z4 := M2.size
   refine qd 3 rfl<|qm rfl ?_
   obtain ⟨l1, n, hm⟩ := bnd hm
   refine qe rfl (Xcq (c := bvc) (a := 0#8) Qp7 Xjf rfl ⟨rfl, rfl⟩ rfl n (by decide)) ?_
   rintro p w3 ⟨q, B, i, G3⟩
   have z5 := G3.size
   have F := i.lth
   refine qm rfl<|qb ?_
   have B7 := (m.gr G3)
   have X8 := ((((Kz.refl [(1, bp0)] w).md M1).md M2).gr G3)
   cases hm
   refine ⟨_, _, rfl, Qay rfl (Qac rfl), ?_⟩
   exact ⟨p, 1, q, 0, (.slice none 0 0), 0, 0, 0, rfl, (Own.rd i), ⟨(.inr tk0)⟩, (Own.rd (Qaw _ 0 5 1)), ⟨.inl rfl⟩, B7, X8⟩
 replace hm := iF c1 hm
 refine qu<|qs 7 rfl<|qm rfl<|qv rfl (Qcc rfl rfl)<|qv rfl (Qa0 Qpp rfl) ?_
 refine qv rfl (Qa2 (v := vp0_0) Qg2 rfl hbp0 rfl)<|qm rfl ?_
 obtain ⟨l2, s, hm⟩ := bnd hm
 refine qt rfl (Qsw (P := Tryz.prog) (lo := 0) (hi := p1) (l := p0.b) (c := bvc) Tryz.underlying50 (Qcd).siz rfl d rfl ⟨_, rfl⟩ s) ?_
 rintro v9 o9 R9
 have C := R9.lth
 refine qm rfl<|qd 10 rfl<|qm rfl<|qm rfl<|qv rfl (Qcc rfl rfl) ?_
 refine qv rfl (Qa0 Qpp rfl)<|qv rfl (Qa2 (v := vp0_0) Qg2 rfl hbp0 rfl)<|qm rfl ?_
 obtain ⟨l3, t, hm⟩ := bnd hm
 refine qt rfl (Qsw (P := Tryz.prog) (lo := p1) (hi := (p0.b.length : Int)) (l := p0.b) (c := bvc) Tryz.underlying50 (Qcd).siz rfl d ⟨_, rfl⟩ rfl t) ?_
 rintro j u f
 have D := f.lth
 refine qv rfl (Qcc rfl rfl)<|qv rfl (Qa0 Qpp rfl)<|qe rfl (Qct (cs' := Qab.cs (Qab.mk l3 p0.short) j) (Qg2).siz rfl rfl (Rd.oneB f) hbp0 rfl rfl) ?_
 rintro _ w4 ⟨x, M4⟩
 have G := M4.size
 refine qd 2 rfl<|qm rfl<|qm rfl<|Qa1<|Qaf ?_
 have y := (R9.md M4 (tk1 ((tk2 h.o g.o) : zp0_0 = 0 ∨ gp0_0 ≠ bp0)))
 have z := (f.md M4 (tk1 ((tk2 h.o g.o) : zp0_0 = 0 ∨ gp0_0 ≠ bp0)))
 have A := ((Kz.refl [(1, bp0)] w).md M4)
 cases hm
 refine ⟨_, _, rfl, Qay rfl (Qac rfl), ?_⟩
 exact ⟨v9, zp0_0, gp0_0, o9, j, zp0_0, gp0_0, u, rfl, y, ⟨tk0⟩, z, ⟨tk0⟩, x, A⟩
theorem Qcm {p0 p1 bp0 vp0_0 zp0_0 gp0_0 op0_0 r} (hm : Qbp p0 p1 = some r) {w : World} (hbp0 : Bx w bp0 196 (Qab.cs p0 vp0_0)) (g : Rd w zp0_0 gp0_0 op0_0 1 vp0_0 (p0.b.map bvc)) (y : Hdn (zp0_0 = 0 ∨ gp0_0 ≠ bp0)) :
    Calls Tryz.prog 128 [.pointer (some ⟨bp0, 0, none⟩), .int .i64 p1].toArray w fun e w' => ∃ v, e = .returned v ∧ (∃ ub1_0 zb1_0 gb1_0 ob1_0, v = wv r.1 ∧ Rd w' zb1_0 gb1_0 ob1_0 1 ub1_0 (r.2.b.map bvc) ∧ Hdn (zb1_0 = 0 ∨ (gb1_0 = gp0_0 ∧ zp0_0 ≠ 0) ∨ w.heap.size ≤ gb1_0) ∧ Bx w' bp0 196 (Qab.cs r.2 ub1_0) ∧ Kz [(1, bp0)] w w') := by
 have z := g.lth
 have M := hbp0.lt
 unfold Qbp at hm
 refine Qa5 23 Tryz.func128 rfl rfl rfl<|qs 1 rfl<|qm rfl<|qd 1 rfl ?_
 refine qm rfl<|Qa1<|Qa3<|qs 5 rfl<|qm rfl<|qm rfl ?_
 obtain ⟨x1, H, hm⟩ := bnd hm
 refine qe rfl (eC Xco rfl (Qii H hbp0 g ⟨(tk1 ((tk2 z.o y.o) : zp0_0 = 0 ∨ gp0_0 ≠ bp0))⟩)) ?_
 rintro B w1 ⟨_, C, D, E, h, j, m, n, rfl, d, F, f, p, s, K1⟩
 have z3 := K1.size
 have N := d.lth
 have O := f.lth
 refine qv rfl (Qba (l := x1.1) (c := bvc) Tryz.underlying50 rfl d)<|qm rfl<|Qa1<|Qao ?_
 have X6 := ((Kz.refl [(1, bp0)] w).kz K1)
 have B7 := (g.kz K1 (tk1 ((tk2 z.o y.o) : zp0_0 = 0 ∨ gp0_0 ≠ bp0)))
 refine Qbk (α := Nat × BitVec 64 × Int) ([5, 7] ++ rg 12 10) (fun ⟨n1, a4, a5⟩ => [(5, wv a4), (12, .int .i64 a5)]) (fun ⟨n1, a4, a5⟩ wr => (Qcr (Qcu x1) n1 (a4, a5) = some r) ∧ Kz [] w1 wr) (fun ⟨n1, a4, a5⟩ => n1) ⟨Qdn, 0#64, 0⟩ ?_ ?_ ?_
 · exact sbq
 · exact ⟨hm, Kz.refl _ _⟩
 clear hm; rintro ⟨n1, a4, a5⟩ w2 ⟨hm, K2⟩
 have z8 := K2.size
 have hb := Qbt hm; clear hm; obtain ⟨n1, rfl, hm⟩ := hb
 generalize t : Qcr (Qcu x1) n1 = L at hm
 unfold Qcu at hm
 try dsimp only at hm
 refine qs 1 rfl<|qv rfl (Qc9 (a := a5) (b := (x1.1.length : Int)) rfl rfl)<|Qa1<|Qa3<|cnF rfl (fun c1 => ?_) (fun c1 => ?_)
 · replace hm := iF c1 hm
   refine Qbq<|Qb6<|Qb6<|Qbo<|Qaz<|qs 2 rfl ?_
   refine qm rfl<|qm rfl<|Qa1<|Qaf ?_
   have I := (f.kz K2)
   have J := (s.kz K2)
   have K := (X6.kz K2)
   cases hm
   refine ⟨_, _, rfl, Qay rfl (Qac rfl), ?_⟩
   exact ⟨h, j, m, n, rfl, I, ⟨(Qbw (A := (fun x => (x = gp0_0 ∧ zp0_0 ≠ 0) ∨ w.heap.size ≤ x)) p tk0)⟩, J, K⟩
 replace hm := iT c1 hm
 refine qu<|Qa3<|Qao<|qs 3 rfl ?_
 obtain ⟨y6, G, hm⟩ := bnd hm
 have B9 := (d.kz K2)
 refine qv rfl (Qex (i := a5) Tryz.underlying50 (Qcd).siz rfl B9 rfl G)<|qv rfl (Qj8 (q := 0) (u := bv y6) Qcd rfl B9 G (by first | rfl | omega) rfl)<|qm rfl<|Qa1<|qg 6 rfl<|qm rfl ?_
 obtain ⟨n7, hn7, hm⟩ := bnd hm
 refine qv rfl (Qv6 (c := a4) (b := (un 8#64)) rfl rfl hn7)<|qm rfl<|qv rfl (Qru Qms rfl)<|qv rfl (Qsi (a := a4 <<< n7) (b := y6.setWidth 64) rfl rfl)<|qm rfl<|Qa9<|Qb1 ?_
 refine Qaz<|qg 2 rfl<|qv rfl (Qc6 (k := .i64) (a := a5) (b := 1) rfl rfl)<|qm rfl<|Qa9 ?_
 have K_10 : Kz [] w1 w2 := K2
 subst t
 exact ⟨rfl, ⟨n1, (a4 <<< n7) ||| (y6.setWidth 64), w64 (a5 + 1)⟩, sbq, ⟨hm, K_10⟩, Nat.lt_succ_self _⟩
theorem Qd5 {p0 bp0 vp0_0 zp0_0 gp0_0 op0_0 r} (hm : Qc3 p0 = some r) {w : World} (hbp0 : Bx w bp0 196 (Qab.cs p0 vp0_0)) (c : Rd w zp0_0 gp0_0 op0_0 1 vp0_0 (p0.b.map bvc)) (k : Hdn (zp0_0 = 0 ∨ gp0_0 ≠ bp0)) :
    Calls Tryz.prog 127 [.pointer (some ⟨bp0, 0, none⟩)].toArray w fun e w' => ∃ v, e = .returned v ∧ (∃ ub1_0 zb1_0 gb1_0 ob1_0, v = .int .i64 r.1 ∧ Rd w' zb1_0 gb1_0 ob1_0 1 ub1_0 (r.2.b.map bvc) ∧ Hdn (zb1_0 = 0 ∨ (gb1_0 = gp0_0 ∧ zp0_0 ≠ 0) ∨ w.heap.size ≤ gb1_0) ∧ Bx w' bp0 196 (Qab.cs r.2 ub1_0) ∧ Kz [(1, bp0)] w w') := by
 have l := c.lth
 have n := hbp0.lt
 unfold Qc3 at hm
 refine Qa5 6 Tryz.func127 rfl rfl rfl<|qs 1 rfl<|qm rfl<|qd 4 rfl ?_
 refine qm rfl ?_
 obtain ⟨x1, m, hm⟩ := bnd hm
 refine qe rfl (eC Qs8 rfl (Qcm m hbp0 c ⟨(tk1 ((tk2 l.o k.o) : zp0_0 = 0 ∨ gp0_0 ≠ bp0))⟩)) ?_
 rintro _ w1 ⟨d, f, g, h, rfl, a, i, j, K1⟩
 have z3 := K1.size
 have p := a.lth
 refine qv rfl (Qp8 Qxr rfl)<|qm rfl<|Qa1<|Qaf ?_
 have X5 := ((Kz.refl [(1, bp0)] w).kz K1)
 cases hm
 refine ⟨_, _, rfl, Qay rfl (Qac rfl), ?_⟩
 exact ⟨d, f, g, h, rfl, a, ⟨(Qbw (A := (fun x => (x = gp0_0 ∧ zp0_0 ≠ 0) ∨ w.heap.size ≤ x)) i tk0)⟩, j, X5⟩
theorem Qqc {p0 vp0 zp0 gp0 op0 r} (hm : Qhu p0 = some r) {w : World} (a : Rd w zp0 gp0 op0 1 vp0 (p0.map bvc)) :
    Calls Tryz.prog 129 [vp0].toArray w fun e w' => ∃ v, e = .returned v ∧ (∃ ur0_s zr0_s gr0_s, v = ur0_s ∧ Own w' zr0_s gr0_s 5 1 ur0_s (r.map bvc) ∧ Hdn (zr0_s = 0 ∨ w.heap.size ≤ gr0_s) ∧ Gr w w') := by
 have t := a.lth
 unfold Qhu at hm
 refine Qa5 8 Tryz.func129 rfl rfl rfl<|qs 1 rfl<|qm rfl<|Qa1<|Qa3<|Qa3 ?_
 refine qg 2 rfl<|qm rfl ?_
 rcases Qvo a with ⟨g, b, h⟩ | ⟨u, y, g, b⟩
 · replace hm : (some []) = some r := by rw [h] at hm; exact hm
   refine qv rfl (Qnc Tryz.underlying50 rfl b)<|Qa1<|Qi8 rfl<|qs 1 rfl<|qm rfl<|Qa1 ?_
   refine Qaf<|Qb2 ?_
   cases hm
   refine ⟨_, _, rfl, Qay rfl (Qac rfl), ?_⟩
   exact ⟨(.slice none 0 0), 0, 0, rfl, (Qaw _ 0 5 1), ⟨.inl rfl⟩, (Gr.refl w)⟩
 skip
 refine qv rfl (Qnc Tryz.underlying50 rfl b)<|Qa1<|Qj9 rfl<|qu<|qs 4 rfl ?_
 refine qe rfl (Qcx ([] : List (BitVec 8)) bvc Qyr rfl rfl (Qh6 rfl) rfl rfl rfl) ?_
 rintro z w1 ⟨i, s, d, G1⟩
 have z3 := G1.size
 have B := d.lth
 refine qm rfl ?_
 have B5 := (a.gr G1)
 obtain ⟨l1, j, hm⟩ := bnd hm
 refine qe rfl (Qfn (l := ([] : List (BitVec 8))) (m := p0) (c := bvc) Qp7 rfl rfl d B5 j (by decide)) ?_
 rintro k w2 ⟨n, o, p, f, C, q⟩
 have z6 := f.size
 refine qm rfl<|Qa1<|Qaf ?_
 have X7 := (((Gr.refl w).trans G1).ka f (tk1 ((.inr tk0) : 1 = 0 ∨ w.heap.size ≤ i)))
 cases hm
 refine ⟨_, _, rfl, Qay rfl (Qac rfl), ?_⟩
 exact ⟨k, n, o, rfl, p, ⟨(Qg4 (A := (fun x => w.heap.size ≤ x)) q (.inr tk0))⟩, X7⟩
theorem Qcl {p0 bp0 vp0_0 zp0_0 gp0_0 op0_0 r} (hm : Qc4 p0 = some r) {w : World} (hbp0 : Bx w bp0 196 (Qab.cs p0 vp0_0)) (f : Rd w zp0_0 gp0_0 op0_0 1 vp0_0 (p0.b.map bvc)) (C : Hdn (zp0_0 = 0 ∨ gp0_0 ≠ bp0)) :
    Calls Tryz.prog 135 [.pointer (some ⟨bp0, 0, none⟩)].toArray w fun e w' => ∃ v, e = .returned v ∧ (∃ ub1_0 zb1_0 gb1_0 ob1_0, v = kv r.1 ∧ Rd w' zb1_0 gb1_0 ob1_0 1 ub1_0 (r.2.b.map bvc) ∧ Hdn (zb1_0 = 0 ∨ (gb1_0 = gp0_0 ∧ zp0_0 ≠ 0) ∨ w.heap.size ≤ gb1_0) ∧ Bx w' bp0 196 (Qab.cs r.2 ub1_0) ∧ Kz [(1, bp0)] w w') := by
 have m := f.lth
 have K := hbp0.lt
 unfold Qc4 at hm
 refine Qa5 7 Tryz.func135 rfl rfl rfl<|qs 1 rfl<|qe rfl (Qaa (cs := kb k0) Qef rfl) ?_
 rintro _ w1 ⟨b1, rfl, J, q, G1⟩
 have z3 := G1.size
 have L := q.lt
 refine qd 5 rfl<|qm rfl ?_
 have B5 := (hbp0.gr G1)
 have B6 := (f.gr G1)
 obtain ⟨x1, D, hm⟩ := bnd hm
 refine qe rfl (eC Xco rfl (Qii D B5 B6 ⟨(tk1 ((tk2 m.o C.o) : zp0_0 = 0 ∨ gp0_0 ≠ bp0))⟩)) ?_
 rintro s w2 ⟨_, t, u, y, g, h, i, j, rfl, a, z, c, d, k, K2⟩
 have z7 := K2.size
 have M := a.lth
 have N := c.lth
 obtain ⟨x2, B, hm⟩ := bnd hm
 refine qv rfl (Xlf (n := 0) (l := x1.1) Tryz.underlying23 rfl a B)<|qv rfl (Xi9 (l := x1.1) (p := x2) Qai rfl a B) ?_
 have E := (q.kz K2)
 refine qe rfl (Qah Qai rfl rfl rfl E rfl rfl) ?_
 rintro _ w3 ⟨F, M3⟩
 have O := M3.size
 refine Qa1<|Qaf ?_
 have G := (c.md M3 (Qas d (Qan m)))
 have H := (k.md M3)
 have I := ((((Kz.refl [(1, bp0)] w).gr G1).kz K2).md M3)
 cases hm
 refine ⟨_, _, rfl, Qay rfl (Qaq Qai rfl F rfl), ?_⟩
 exact ⟨g, h, i, j, rfl, G, ⟨(Qbw (A := (fun x => (x = gp0_0 ∧ zp0_0 ≠ 0) ∨ w.heap.size ≤ x)) d tk0)⟩, H, I⟩
theorem Qqa {p0 bp0 vp0_0 zp0_0 gp0_0 op0_0 r} (hm : Qg0 p0 = some r) {w : World} (hbp0 : Bx w bp0 196 (Qab.cs p0 vp0_0)) (i : Rd w zp0_0 gp0_0 op0_0 1 vp0_0 (p0.b.map bvc)) (p : Hdn (zp0_0 = 0 ∨ gp0_0 ≠ bp0)) :
    Calls Tryz.prog 132 [.pointer (some ⟨bp0, 0, none⟩)].toArray w fun e w' => ∃ v, e = .returned v ∧ (∃ ub1_0 zb1_0 gb1_0 ob1_0, v = .agg (Qbd.cs r.1).toArray ∧ Rd w' zb1_0 gb1_0 ob1_0 1 ub1_0 (r.2.b.map bvc) ∧ Hdn (zb1_0 = 0 ∨ (gb1_0 = gp0_0 ∧ zp0_0 ≠ 0) ∨ w.heap.size ≤ gb1_0) ∧ Bx w' bp0 196 (Qab.cs r.2 ub1_0) ∧ Kz [(1, bp0)] w w') := by
 have n := i.lth
 have S := hbp0.lt
 unfold Qg0 at hm
 refine Qa5 11 Tryz.func132 rfl rfl rfl<|qs 1 rfl<|qe rfl (Qaa (cs := Qbd.cs (Qbd.mk (Qak.mk 0 0) k0)) Qw2 rfl) ?_
 rintro _ w1 ⟨b1, rfl, P, u, G1⟩
 have z3 := G1.size
 have T := u.lt
 refine qd 9 rfl<|qm rfl ?_
 have B5 := (hbp0.gr G1)
 have B6 := (i.gr G1)
 obtain ⟨x1, H, hm⟩ := bnd hm
 refine qe rfl (eC Qt6 rfl (Qd5 H B5 B6 ⟨(tk1 ((tk2 n.o p.o) : zp0_0 = 0 ∨ gp0_0 ≠ bp0))⟩)) ?_
 rintro _ w2 ⟨y, z, B, C, rfl, d, a, q, K2⟩
 have z7 := K2.size
 have U := d.lth
 refine qm rfl ?_
 obtain ⟨x2, I, hm⟩ := bnd hm
 refine qe rfl (eC Qt6 rfl (Qd5 I q d ⟨(tk1 (Qas (b := bp0) a (tk2 n.o p.o)))⟩)) ?_
 rintro _ w3 ⟨D, E, F, G, rfl, f, c, s, K3⟩
 have z9 := K3.size
 have Q := f.lth
 refine qv rfl (Qau (cs := Qak.cs (Qak.mk x1.1 x2.1)) Qx1 rfl rfl)<|qm rfl ?_
 obtain ⟨x3, J, hm⟩ := bnd hm
 refine qe rfl (eC Qpx rfl (Qcl J s f ⟨(tk1 (Qas (b := bp0) c (Qas a (tk2 n.o p.o))))⟩)) ?_
 rintro _ w4 ⟨j, k, l, m, rfl, g, h, t, K4⟩
 have V := K4.size
 have R := g.lth
 refine qv rfl (Qau (cs := Qbd.cs (Qbd.mk (Qak.mk x1.1 x2.1) x3.1)) Xft rfl (Qi4 rfl rfl rfl (Qi4 rfl rfl rfl (by kernel_rfl)))) ?_
 have K := (((u.kz K2).kz K3).kz K4)
 refine qe rfl (Qah Qgc rfl rfl rfl K rfl rfl) ?_
 rintro _ w5 ⟨L, M5⟩
 have W := M5.size
 refine Qa1<|Qaf ?_
 have M := (g.md M5 (Qas h (Qas c (Qas a (Qan n)))))
 have N := (t.md M5)
 have O := ((((((Kz.refl [(1, bp0)] w).gr G1).kz K2).kz K3).kz K4).md M5)
 cases hm
 refine ⟨_, _, rfl, Qay rfl (Qaq Qgc rfl L rfl), ?_⟩
 exact ⟨j, k, l, m, rfl, M, ⟨(Qbw (A := (fun x => (x = gp0_0 ∧ zp0_0 ≠ 0) ∨ w.heap.size ≤ x)) h (Qbw (A := (fun x => (x = gp0_0 ∧ zp0_0 ≠ 0) ∨ w.heap.size ≤ x)) c (Qbw (A := (fun x => (x = gp0_0 ∧ zp0_0 ≠ 0) ∨ w.heap.size ≤ x)) a tk0)))⟩, N, O⟩
theorem Qks {p0 bp0 vp0_0 zp0_0 gp0_0 op0_0 r} (hm : Qe3 p0 = some r) {w : World} (hbp0 : Bx w bp0 196 (Qab.cs p0 vp0_0)) (g : Rd w zp0_0 gp0_0 op0_0 1 vp0_0 (p0.b.map bvc)) (p : Hdn (zp0_0 = 0 ∨ gp0_0 ≠ bp0)) :
    Calls Tryz.prog 134 [.pointer (some ⟨bp0, 0, none⟩)].toArray w fun e w' => ∃ v, e = .returned v ∧ (∃ ub1_0 zb1_0 gb1_0 ob1_0, v = .agg (Qag.cs r.1).toArray ∧ Rd w' zb1_0 gb1_0 ob1_0 1 ub1_0 (r.2.b.map bvc) ∧ Hdn (zb1_0 = 0 ∨ (gb1_0 = gp0_0 ∧ zp0_0 ≠ 0) ∨ w.heap.size ≤ gb1_0) ∧ Bx w' bp0 196 (Qab.cs r.2 ub1_0) ∧ Kz [(1, bp0)] w w') := by
 have l := g.lth
 have J := hbp0.lt
 unfold Qe3 at hm
 refine Qa5 8 Tryz.func134 rfl rfl rfl<|qs 1 rfl<|qe rfl (Qaa (cs := Qag.cs (Qag.mk 0#64 0#64)) Qw5 rfl) ?_
 rintro _ w1 ⟨b1, rfl, H, q, G1⟩
 have z3 := G1.size
 have K := q.lt
 refine qd 6 rfl<|qm rfl ?_
 have B5 := (hbp0.gr G1)
 have B6 := (g.gr G1)
 obtain ⟨x1, z, hm⟩ := bnd hm
 refine qe rfl (eC Qs8 rfl (Qcm z B5 B6 ⟨(tk1 ((tk2 l.o p.o) : zp0_0 = 0 ∨ gp0_0 ≠ bp0))⟩)) ?_
 rintro _ w2 ⟨s, t, u, y, rfl, c, a, m, K2⟩
 have z7 := K2.size
 have L := c.lth
 refine qm rfl ?_
 obtain ⟨x2, B, hm⟩ := bnd hm
 refine qe rfl (eC Qs8 rfl (Qcm B m c ⟨(tk1 (Qas (b := bp0) a (tk2 l.o p.o)))⟩)) ?_
 rintro _ w3 ⟨h, i, j, k, rfl, d, f, n, K3⟩
 have z9 := K3.size
 have I := d.lth
 refine qv rfl (Qau (cs := Qag.cs (Qag.mk x1.1 x2.1)) Xam rfl rfl) ?_
 have C := ((q.kz K2).kz K3)
 refine qe rfl (Qah Qfg rfl rfl rfl C rfl rfl) ?_
 rintro _ w4 ⟨D, M4⟩
 have M := M4.size
 refine Qa1<|Qaf ?_
 have E := (d.md M4 (Qas f (Qas a (Qan l))))
 have F := (n.md M4)
 have G := (((((Kz.refl [(1, bp0)] w).gr G1).kz K2).kz K3).md M4)
 cases hm
 refine ⟨_, _, rfl, Qay rfl (Qaq Qfg rfl D rfl), ?_⟩
 exact ⟨h, i, j, k, rfl, E, ⟨(Qbw (A := (fun x => (x = gp0_0 ∧ zp0_0 ≠ 0) ∨ w.heap.size ≤ x)) f (Qbw (A := (fun x => (x = gp0_0 ∧ zp0_0 ≠ 0) ∨ w.heap.size ≤ x)) a tk0))⟩, F, G⟩
theorem Qk0 {p0 vp0 zp0 gp0 op0 r} (hm : Qg5 p0 = some r) {w : World} (fe : Rd w zp0 gp0 op0 1 vp0 (p0.map bvc)) :
    Calls Tryz.prog 58 [vp0].toArray w fun e w' => ∃ v, e = .returned v ∧ (∃ ur0_2 zr0_2 gr0_2 ur0_4 zr0_4 gr0_4 ur0_39 zr0_39 gr0_39, v = .tuple [.agg (Qa4.cs r.1 ur0_2 ur0_4 ur0_39).toArray, .int .i64 r.2].toArray ∧ Own w' zr0_2 gr0_2 133 18 ur0_2 (r.1.Head.Items.map Qbd.cs) ∧ Hdn (zr0_2 = 0 ∨ w.heap.size ≤ gr0_2) ∧ Own w' zr0_4 gr0_4 31 2 ur0_4 (r.1.Head.Points.map Qag.cs) ∧ Hdn (zr0_4 = 0 ∨ w.heap.size ≤ gr0_4) ∧ Own w' zr0_39 gr0_39 5 1 ur0_39 (r.1.Data.map bvc) ∧ Hdn (zr0_39 = 0 ∨ w.heap.size ≤ gr0_39) ∧ Hdn (zr0_4 = 0 ∨ zr0_2 = 0 ∨ gr0_4 ≠ gr0_2) ∧ Hdn (zr0_39 = 0 ∨ zr0_2 = 0 ∨ gr0_39 ≠ gr0_2) ∧ Hdn (zr0_39 = 0 ∨ zr0_4 = 0 ∨ gr0_39 ≠ gr0_4) ∧ Gr w w') := by
 have u := fe.lth
 unfold Qg5 at hm
 refine Qa5 85 Tryz.func58 rfl rfl rfl<|qs 2 rfl<|qe rfl (Qaa (cs := Qa4.cs (Qa4.mk 0#8 0 (Qa8.mk [] 0#64 [] k0 k0) 0#8 0#64 [] k0) (.slice none 0 0) (.slice none 0 0) (.slice none 0 0)) Qis rfl) ?_
 rintro _ w1 ⟨b1, rfl, iB, cR, G1⟩
 have z2 := G1.size
 have j0 := cR.lt
 refine qm rfl<|qd 4 rfl<|qm rfl ?_
 have B4 := (fe.gr G1)
 refine qv rfl (Qau (cs := Qab.cs (Qab.mk p0 false) vp0) Xm1 rfl (Xkv rfl (Rd.oneB B4) rfl rfl))<|qe rfl (Qat (cs := Qab.cs (Qab.mk p0 false) vp0) rfl rfl) ?_
 rintro _ w2 ⟨b2, rfl, iC, ff, G2⟩
 have z5 := G2.size
 have j1 := ff.lt
 refine qm rfl<|qd 6 rfl<|qm rfl ?_
 have B7 := (B4.gr G2)
 obtain ⟨x1, hq, hm⟩ := bnd hm
 refine qe rfl (eC Qt6 rfl (Qd5 hq ff B7 ⟨(tk1 (Qan (b := b2) u))⟩)) ?_
 rintro _ w3 ⟨fg, i, j, fh, rfl, aB, h, cy, K3⟩
 have z8 := K3.size
 have D := aB.lth
 refine qv rfl (Qyf Xds rfl)<|qv rfl (Qau (cs := Qa4.cs (Qa4.mk (wd8 x1.1) 0 (Qa8.mk [] 0#64 [] k0 k0) 0#8 0#64 [] k0) (.slice none 0 0) (.slice none 0 0) (.slice none 0 0)) Qv2 rfl (by kernel_rfl))<|qe rfl (Qaa (cs := Qa4.cs (Qa4.mk 0#8 0 (Qa8.mk [] 0#64 [] k0 k0) 0#8 0#64 [] k0) (.slice none 0 0) (.slice none 0 0) (.slice none 0 0)) Qis rfl) ?_
 rintro _ w4 ⟨b4, rfl, iD, fi, G4⟩
 have j2 := G4.size
 have iE := fi.lt
 refine qe rfl (Qah Qbu rfl rfl (Qa4.cs_ones _ _ _ _ rfl rfl rfl) fi rfl rfl) ?_
 rintro _ w5 ⟨d4, M5⟩
 have j3 := M5.size
 refine Qa1 ?_
 have d5 := ((((((Gr.refl w).trans G1).trans G2).kz K3).trans G4).md M5)
 refine qj (β := Qab × Int × List Qbd × BitVec 64 × List Qag × W2 × W2 × BitVec 8 × BitVec 64 × List (BitVec 8) × Value × Nat × Nat × Nat × Value × Nat × Nat × Value × Nat × Nat × Value × Nat × Nat) ([3, 6] ++ rg 14 49) (fun ⟨a2, a4, a5, a6, a7, a8, a9, bR, bS, bF, vy3, zy3, gy3, oy3, vy13, zy13, gy13, vy14, zy14, gy14, vy15, zy15, gy15⟩ => [(3, .int .i64 0)]) (fun ⟨a2, a4, a5, a6, a7, a8, a9, bR, bS, bF, vy3, zy3, gy3, oy3, vy13, zy13, gy13, vy14, zy14, gy14, vy15, zy15, gy15⟩ wr => (Qdi x1 a2 a4 a5 a6 a7 a8 a9 bR bS bF = some r) ∧ Rd wr zy3 gy3 oy3 1 vy3 (a2.b.map bvc) ∧ Hdn (zy3 = 0 ∨ (gy3 = j ∧ i ≠ 0) ∨ w5.heap.size ≤ gy3) ∧ Own wr zy13 gy13 133 18 vy13 (a5.map Qbd.cs) ∧ Hdn (zy13 = 0 ∨ w5.heap.size ≤ gy13) ∧ Own wr zy14 gy14 31 2 vy14 (a7.map Qag.cs) ∧ Hdn (zy14 = 0 ∨ w5.heap.size ≤ gy14) ∧ Own wr zy15 gy15 5 1 vy15 (bF.map bvc) ∧ Hdn (zy15 = 0 ∨ w5.heap.size ≤ gy15) ∧ Hdn (zy13 = 0 ∨ zy3 = 0 ∨ gy13 ≠ gy3) ∧ Hdn (zy14 = 0 ∨ zy3 = 0 ∨ gy14 ≠ gy3) ∧ Hdn (zy14 = 0 ∨ zy13 = 0 ∨ gy14 ≠ gy13) ∧ Hdn (zy15 = 0 ∨ zy3 = 0 ∨ gy15 ≠ gy3) ∧ Hdn (zy15 = 0 ∨ zy13 = 0 ∨ gy15 ≠ gy13) ∧ Hdn (zy15 = 0 ∨ zy14 = 0 ∨ gy15 ≠ gy14) ∧ Bx wr b2 196 (Qab.cs a2 vy3) ∧ Bx wr b4 52 (Qa4.cs (Qa4.mk (wd8 x1.1) a4 (Qa8.mk a5 a6 a7 a8 a9) bR bS bF k0) vy13 vy14 vy15) ∧ Kz [(1, b2), (1, b4)] w5 wr) ?_ ?_
 · refine qs 3 rfl<|qv rfl (Qa0 Qom rfl)<|qv rfl (Qa2 (v := bv (wd8 x1.1)) Qcd rfl d4 rfl)<|qv rfl (Qga (p := wd8 x1.1) (q := 2#8) rfl rfl)<|Qa1<|Qal rfl (fun c4 => ?_) (fun c4 => ?_)
   · replace hm := iT c4 hm
     refine qs 9 rfl<|qm rfl ?_
     have hr := ((cy.gr G4).md M5)
     have ht := ((aB.gr G4).md M5 (Qan D))
     obtain ⟨cS, fj, hm⟩ := bnd hm
     refine qe rfl (eC Qt6 rfl (Qd5 fj hr ht ⟨(tk1 (Qas (b := b2) h (Qan u)))⟩)) ?_
     rintro _ j4 ⟨et, eu, ew, ex, rfl, aN, H, cT, d6⟩
     have j5 := d6.size
     have iG := aN.lth
     refine qv rfl (Qyf Xds rfl)<|qm rfl ?_
     obtain ⟨d7, fk, hm⟩ := bnd hm
     refine qe rfl (eC Qs8 rfl (Qcm fk cT aN ⟨(tk1 (Qas (b := b2) H (Qas h (Qan u))))⟩)) ?_
     rintro _ j6 ⟨ey, ez, eA, eB, rfl, aO, J, cU, d8⟩
     have j7 := d8.size
     have iH := aO.lth
     refine qv rfl (Qa0 Qqq rfl) ?_
     have hu := ((d4.kz d6).kz d8)
     refine qe rfl (Qct (cs' := Qa4.cs (Qa4.mk (wd8 x1.1) 0 (Qa8.mk [] 0#64 [] k0 k0) (wd8 cS.1) 0#64 [] k0) (.slice none 0 0) (.slice none 0 0) (.slice none 0 0)) (Qcd).siz rfl rfl rfl hu rfl rfl) ?_
     rintro _ j8 ⟨fl, cV⟩
     have j9 := cV.size
     refine qv rfl (Qa0 Qrm rfl)<|qe rfl (Qct (cs' := Qa4.cs (Qa4.mk (wd8 x1.1) 0 (Qa8.mk [] 0#64 [] k0 k0) (wd8 cS.1) d7.1 [] k0) (.slice none 0 0) (.slice none 0 0) (.slice none 0 0)) (Qb7).siz rfl rfl rfl fl rfl rfl) ?_
     rintro _ kc ⟨fm, cW⟩
     have kd := cW.size
     refine Qa1<|qg 8 rfl<|qm rfl<|qm rfl ?_
     have hw := ((cU.md cV).md cW)
     have hy := ((aO.md cV (Qas J (Qas H (Qan D)))).md cW (Qas J (Qas H (Qan D))))
     obtain ⟨ke, fn, hm⟩ := bnd hm
     refine qe rfl (eC Qs8 rfl (Qcm fn hw hy ⟨(tk1 (Qas (b := b2) J (Qas H (Qas h (Qan u)))))⟩)) ?_
     rintro _ kf ⟨eD, eE, eF, eG, rfl, aP, af, cX, d9⟩
     have kg := d9.size
     have iI := aP.lth
     refine qv rfl (Qp8 Qxr rfl) ?_
     obtain ⟨hz, fo, hm⟩ := bnd hm
     refine qe rfl (eC Xco rfl (Qii fo cX aP ⟨(tk1 (Qas (b := b2) af (Qas J (Qas H (Qas h (Qan u))))))⟩)) ?_
     rintro eH kh ⟨_, eI, eJ, eK, bT, aQ, aR, bU, rfl, aS, eL, aT, aU, cY, ea⟩
     have ki := ea.size
     have iJ := aS.lth
     have fp := aT.lth
     obtain ⟨fq, fr, hm⟩ := bnd hm
     refine qe rfl (eC Xle rfl (Qqc fr aS)) ?_
     rintro aV kj ⟨_, bV, bW, rfl, ag, ah, cz⟩
     have kk := cz.size
     have iK := ag.lth
     refine qv rfl (Qa0 Qlv rfl) ?_
     have hA := (((fm.kz d9).kz ea).gr cz)
     refine qe rfl (Qct (cs' := Qa4.cs (Qa4.mk (wd8 x1.1) 0 (Qa8.mk [] 0#64 [] k0 k0) (wd8 cS.1) d7.1 fq k0) (.slice none 0 0) (.slice none 0 0) aV) (Qg2).siz rfl rfl (Own.oneB ag) hA rfl rfl) ?_
     rintro _ hB ⟨fs, cA⟩
     have kl := cA.size
     refine Qa9 ?_
     have K_69 : Kz [(1, b2), (1, b4)] w5 hB := ((((((((Kz.kz (Kz.refl _ _) d6).kz d8).md cV).md cW).kz d9).kz ea).gr cz).md cA)
     have hC := ((aT.gr cz).md cA (Qas aU (Qas af (Qas J (Qas H (Qan D))))))
     have hD := (ag.md cA (Qca ah))
     have hE := ((cY.gr cz).md cA)
     exact ⟨rfl, ⟨hz.2, 0, [], 0#64, [], k0, k0, wd8 cS.1, d7.1, fq, bT, aQ, aR, bU, (.slice none 0 0), 0, 0, (.slice none 0 0), 0, 0, aV, bV, bW⟩, sbq, hm, hC, ⟨(Qbw (A := (fun x => (x = j ∧ i ≠ 0) ∨ w5.heap.size ≤ x)) aU (Qbw (A := (fun x => (x = j ∧ i ≠ 0) ∨ w5.heap.size ≤ x)) af (Qbw (A := (fun x => (x = j ∧ i ≠ 0) ∨ w5.heap.size ≤ x)) J (Qbw (A := (fun x => (x = j ∧ i ≠ 0) ∨ w5.heap.size ≤ x)) H tk0))))⟩, (Qaw _ 0 133 18), ⟨(.inl rfl)⟩, (Qaw _ 0 31 2), ⟨(.inl rfl)⟩, hD, ⟨(Qbn (A := (fun x => w5.heap.size ≤ x)) ah)⟩, ⟨(.inl rfl)⟩, ⟨(.inl rfl)⟩, ⟨(.inl rfl)⟩, ⟨(Qbn (A := (fun x => aQ = 0 ∨ x ≠ aR)) ah (fun x hx => (tk1 fp.o)))⟩, ⟨(.inr (.inl rfl))⟩, ⟨(.inr (.inl rfl))⟩, hE, fs, K_69⟩
   replace hm := iF c4 hm
   refine qs 3 rfl<|qm rfl ?_
   have hF := ((cy.gr G4).md M5)
   have ft := ((aB.gr G4).md M5 (Qan D))
   obtain ⟨G, fu, hm⟩ := bnd hm
   refine qe rfl (eC Qs8 rfl (Qcm fu hF ft ⟨(tk1 (Qas (b := b2) h (Qan u)))⟩)) ?_
   rintro _ km ⟨eM, eN, eO, eP, rfl, aW, f, cZ, aC⟩
   have ko := aC.size
   have iL := aW.lth
   refine qm rfl<|Qa1<|Qa3<|qs 2 rfl<|qm rfl<|qv rfl (Qvr (c := G.1) (d := 1099511627776#64) rfl rfl) ?_
   refine Qa1<|Qal rfl (fun c5 => ?_) (fun c5 => ?_)
   · replace hm := iT c5 hm
     refine qs 3 rfl<|qv rfl (Qau (cs := Qa4.cs (Qa4.mk 0#8 0 (Qa8.mk [] 0#64 [] k0 k0) 0#8 0#64 [] k0) (.slice none 0 0) (.slice none 0 0) (.slice none 0 0)) Qv2 rfl (by kernel_rfl)) ?_
     have hG := (((((cR.gr G2).kz K3).gr G4).md M5).kz aC)
     refine qe rfl (Qah Qbu rfl rfl (Qa4.cs_ones _ _ _ _ rfl rfl rfl) hG rfl rfl) ?_
     rintro _ kq ⟨fv, fw⟩
     have kr := fw.size
     refine qm rfl<|qb<|Qb2 ?_
     have hH := ((d5.kz aC).md fw)
     cases hm
     refine ⟨_, _, rfl, Qbm rfl (Qaq Qbu rfl fv rfl) (Qac rfl), ?_⟩
     exact ⟨(.slice none 0 0), 0, 0, (.slice none 0 0), 0, 0, (.slice none 0 0), 0, 0, rfl, (Qaw _ 0 133 18), ⟨.inl rfl⟩, (Qaw _ 0 31 2), ⟨.inl rfl⟩, (Qaw _ 0 5 1), ⟨.inl rfl⟩, ⟨(.inl rfl)⟩, ⟨(.inl rfl)⟩, ⟨(.inl rfl)⟩, hH⟩
   replace hm := iF c5 hm
   refine qu<|qs 4 rfl<|qm rfl<|qv rfl (Qp8 Qxr rfl)<|qv rfl (Qa0 Qlh rfl) ?_
   have hI := (d4.kz aC)
   refine qe rfl (Qct (cs' := Qa4.cs (Qa4.mk (wd8 x1.1) (w64 (un G.1)) (Qa8.mk [] 0#64 [] k0 k0) 0#8 0#64 [] k0) (.slice none 0 0) (.slice none 0 0) (.slice none 0 0)) (Qb3).siz rfl rfl rfl hI rfl rfl) ?_
   rintro _ kt ⟨dR, aK⟩
   have ku := aK.size
   refine qd 7 rfl<|qm rfl<|qm rfl<|qv rfl (Qdf rfl rfl)<|Qr3 21 Tryz.func131 rfl rfl rfl Xld rfl rfl rfl rfl rfl ?_
   refine qs 1 rfl<|qm rfl<|qd 1 rfl<|qm rfl ?_
   refine Qa1<|Qa3<|qs 3 rfl<|qm rfl ?_
   have hJ := (cZ.md aK)
   have fx := (aW.md aK (Qas f (Qan D)))
   obtain ⟨c0, fy, hm⟩ := bnd hm
   refine qe rfl (eC Qt6 rfl (Qd5 fy hJ fx ⟨(tk1 (Qas (b := b2) f (Qas h (Qan u))))⟩)) ?_
   rintro _ bq ⟨bX, R, S, bY, rfl, T, g, da, aD⟩
   have kw := aD.size
   have iM := T.lth
   refine qm rfl<|Qa1<|Qao ?_
   have fz := (((d5.kz aC).md aK).kz aD)
   have fA := ((((((B7.kz K3 (tk1 (Qan (b := b2) u))).gr G4).md M5 (Qan u)).kz aC (tk1 (Qan (b := b2) u))).md aK (Qan u)).kz aD (tk1 (Qan (b := b2) u)))
   have fB := (((ft.kz aC (tk1 (Qas (b := b2) h (Qan u)))).md aK (Qan D)).kz aD (tk1 (Qas (b := b2) h (Qan u))))
   have fC := (fx.kz aD (tk1 (Qas (b := b2) f (Qas h (Qan u)))))
   refine Qbk (α := Nat × List Qbd × Int × Qab × Value × Nat × Nat × Value × Nat × Nat × Nat) ([4, 5] ++ rg 8 12) (fun ⟨n3, P, bA, bG, vy32, zy32, gy32, vy35, zy35, gy35, oy35⟩ => [(4, .slice none 0 0), (5, vy32), (8, .int .i64 bA)]) (fun ⟨n3, P, bA, bG, vy32, zy32, gy32, vy35, zy35, gy35, oy35⟩ wr => (Qcr (Qdz x1 G c0) n3 (P, bA, bG) = some r) ∧ Own wr zy32 gy32 133 18 vy32 (P.map Qbd.cs) ∧ Hdn (zy32 = 0 ∨ bq.heap.size ≤ gy32) ∧ Rd wr zy35 gy35 oy35 1 vy35 (bG.b.map bvc) ∧ Hdn (zy35 = 0 ∨ (gy35 = S ∧ R ≠ 0) ∨ bq.heap.size ≤ gy35) ∧ Hdn (zy35 = 0 ∨ zy32 = 0 ∨ gy35 ≠ gy32) ∧ Bx wr b2 196 (Qab.cs bG vy35) ∧ Kz [(1, b2)] bq wr) (fun ⟨n3, P, bA, bG, vy32, zy32, gy32, vy35, zy35, gy35, oy35⟩ => n3) ⟨Qdn, [], 0, c0.2, (.slice none 0 0), 0, 0, bX, R, S, bY⟩ ?_ ?_ ?_
   · exact sbq
   · exact ⟨hm, (Qaw _ 0 133 18), ⟨(.inl rfl)⟩, T, ⟨tk0⟩, ⟨(.inr (.inl rfl))⟩, da, Kz.refl _ _⟩
   clear hm; rintro ⟨n3, P, bA, bG, vy32, zy32, gy32, vy35, zy35, gy35, oy35⟩ kx ⟨hm, ab, s, av, n, aw, ac, Q⟩
   have ky := Q.size
   have L := ab.lth
   have iN := av.lth
   have iO := ac.lt
   have hb := Qbt hm; clear hm; obtain ⟨n3, rfl, hm⟩ := hb
   generalize eb : Qcr (Qdz x1 G c0) n3 = iP at hm
   unfold Qdz at hm
   try dsimp only at hm
   refine qs 1 rfl<|qv rfl (Qc9 (a := bA) (b := c0.1) rfl rfl)<|Qa1<|Qa3<|Qal rfl (fun c6 => ?_) (fun c6 => ?_)
   · replace hm := iT c6 hm
     refine qu<|Qa3<|Qao<|Qa3<|qs 4 rfl ?_
     refine qm rfl<|qv rfl (Qcc rfl rfl)<|qv rfl (Qa0 Qrg rfl)<|qv rfl (Qa2 (v := .bool bG.short) Qrn rfl ac rfl)<|Qa1<|cnF rfl (fun c7 => ?_) (fun c7 => ?_)
     · replace hm := Qc1 c7 hm
       refine qu<|qg 6 rfl<|qm rfl<|qm rfl ?_
       obtain ⟨ec, fD, hm⟩ := bnd hm
       refine qe rfl (Qcn Xmf rfl rfl (Qqa fD ac av ⟨(tk1 (Qas (b := b2) n (Qas g (Qas f (Qas h (Qan u))))))⟩)) ?_
       rintro _ kA ⟨bZ, aX, aY, b0, rfl, aZ, ai, db, ed⟩
       have iQ := ed.size
       have ee := aZ.lth
       refine qe rfl (Qcx [ec.1] Qbd.cs Qzb rfl rfl (Qh6 rfl) rfl rfl rfl) ?_
       rintro iR kB ⟨iS, hK, dS, cB⟩
       have iU := cB.size
       have hL := dS.lth
       have fE := ((ab.kz ed (tk1 (Qca (b := b2) s))).gr cB)
       obtain ⟨hM, fF, hm⟩ := bnd hm
       refine qe rfl (Qfn (l := P) (m := [ec.1]) (c := Qbd.cs) Xg6 rfl rfl fE (Own.rd dS) fF (by decide)) ?_
       rintro fG hN ⟨fH, fI, fJ, bM, iV, dT⟩
       have iW := bM.size
       refine qm rfl<|Qa9<|Qb1<|Qaz<|qg 2 rfl<|qv rfl (Qc6 (k := .i64) (a := bA) (b := 1) rfl rfl)<|qm rfl ?_
       refine Qa9 ?_
       have K_162 : Kz [(1, b2)] bq hN := (((Q.kz ed).gr cB).ka bM (tk1 (Qbn (A := (fun x => bq.heap.size ≤ x)) s)))
       have fK := ((aZ.gr cB).ka bM (tk1 (Qbw (A := (fun x => zy32 = 0 ∨ x ≠ gy32)) ai (tk1 aw.o) (fun x hx => (tk1 L.o)))))
       have fL := ((db.gr cB).ka bM (tk1 (Qca (b := b2) s)))
       subst eb
       exact ⟨rfl, ⟨n3, hM, w64 (bA + 1), ec.2, fG, fH, fI, bZ, aX, aY, b0⟩, sbq, ⟨hm, fJ, ⟨(Qg4 (A := (fun x => bq.heap.size ≤ x)) dT (Qbn (A := (fun x => bq.heap.size ≤ x)) s))⟩, fK, ⟨(Qbw (A := (fun x => (x = S ∧ R ≠ 0) ∨ bq.heap.size ≤ x)) ai (Qbw (A := (fun x => (x = S ∧ R ≠ 0) ∨ bq.heap.size ≤ x)) n tk0))⟩, ⟨(Qgb (Qg4 (A := (fun x => aX = 0 ∨ x ≠ aY)) dT (Qgb (Qbw (A := (fun x => zy32 = 0 ∨ x ≠ gy32)) ai (tk1 aw.o) (fun x hx => (tk1 L.o)))) (fun x hx => (tk1 ee.o))))⟩, fL, K_162⟩, Nat.lt_succ_self _⟩
     replace hm := Qc0 c7 hm
     refine qs 1 rfl<|qm rfl<|qb<|Qbl ?_
     refine Qb2<|Qb2<|Qbl<|Qb2<|⟨_, _, rfl, Qay rfl (Qac rfl), ?_⟩
     refine qv rfl (Qa0 Qd9 rfl)<|qv rfl (Qa0 Qfw rfl) ?_
     have hO := ((dR.kz aD).kz Q)
     refine qe rfl (Qct (cs' := Qa4.cs (Qa4.mk (wd8 x1.1) (w64 (un G.1)) (Qa8.mk [] 0#64 [] k0 k0) 0#8 0#64 [] k0) (.slice none 0 0) (.slice none 0 0) (.slice none 0 0)) (Qi5).siz rfl rfl rfl hO rfl rfl) ?_
     rintro _ kC ⟨fM, aE⟩
     have kD := aE.size
     refine qd 5 rfl<|qm rfl ?_
     have hP := (ac.md aE)
     have fN := (av.md aE (Qas n (Qas g (Qas f (Qan D)))))
     obtain ⟨aF, fO, hm⟩ := bnd hm
     refine qe rfl (eC Qs8 rfl (Qcm fO hP fN ⟨(tk1 (Qas (b := b2) n (Qas g (Qas f (Qas h (Qan u))))))⟩)) ?_
     rintro _ kE ⟨eQ, eR, eS, eT, rfl, a0, y, dc, aG⟩
     have kF := aG.size
     have iX := a0.lth
     refine qv rfl (Qa0 Qd9 rfl)<|qv rfl (Qa0 Qlz rfl) ?_
     have fP := (fM.kz aG)
     refine qe rfl (Qct (cs' := Qa4.cs (Qa4.mk (wd8 x1.1) (w64 (un G.1)) (Qa8.mk [] aF.1 [] k0 k0) 0#8 0#64 [] k0) (.slice none 0 0) (.slice none 0 0) (.slice none 0 0)) (Qb7).siz rfl rfl rfl fP rfl rfl) ?_
     rintro _ kH ⟨dU, ar⟩
     have iY := ar.size
     refine qd 7 rfl<|qm rfl<|qm rfl<|qv rfl (Qdf rfl rfl)<|Qr3 21 Tryz.func133 rfl rfl rfl Xgs rfl rfl rfl rfl rfl ?_
     refine qs 1 rfl<|qm rfl<|qd 1 rfl<|qm rfl ?_
     refine Qa1<|Qa3<|qs 3 rfl<|qm rfl ?_
     have fQ := (dc.md ar)
     have dV := (a0.md ar (Qas y (Qas n (Qas g (Qas f (Qan D))))))
     obtain ⟨dd, fR, hm⟩ := bnd hm
     refine qe rfl (eC Qt6 rfl (Qd5 fR fQ dV ⟨(tk1 (Qas (b := b2) y (Qas n (Qas g (Qas f (Qas h (Qan u)))))))⟩)) ?_
     rintro _ br ⟨b3, U, V, b5, rfl, a1, B, de, aj⟩
     have iZ := aj.size
     have hQ := a1.lth
     refine qm rfl<|Qa1<|Qao ?_
     have i0 := (((((fz.kz Q).md aE).kz aG).md ar).kz aj)
     have i1 := (((((fA.kz Q (tk1 (Qan (b := b2) u))).md aE (Qan u)).kz aG (tk1 (Qan (b := b2) u))).md ar (Qan u)).kz aj (tk1 (Qan (b := b2) u)))
     have i2 := (((((fB.kz Q (tk1 (Qas (b := b2) h (Qan u)))).md aE (Qan D)).kz aG (tk1 (Qas (b := b2) h (Qan u)))).md ar (Qan D)).kz aj (tk1 (Qas (b := b2) h (Qan u))))
     have i3 := (((((fC.kz Q (tk1 (Qas (b := b2) f (Qas h (Qan u))))).md aE (Qas f (Qan D))).kz aG (tk1 (Qas (b := b2) f (Qas h (Qan u))))).md ar (Qas f (Qan D))).kz aj (tk1 (Qas (b := b2) f (Qas h (Qan u)))))
     have i4 := (((((T.kz Q (tk1 (Qas (b := b2) g (Qas f (Qas h (Qan u)))))).md aE (Qas g (Qas f (Qan D)))).kz aG (tk1 (Qas (b := b2) g (Qas f (Qas h (Qan u)))))).md ar (Qas g (Qas f (Qan D)))).kz aj (tk1 (Qas (b := b2) g (Qas f (Qas h (Qan u))))))
     have i5 := ((((ab.md aE (Qca s)).kz aG (tk1 (Qca (b := b2) s))).md ar (Qca s)).kz aj (tk1 (Qca (b := b2) s)))
     have i6 := (((fN.kz aG (tk1 (Qas (b := b2) n (Qas g (Qas f (Qas h (Qan u))))))).md ar (Qas n (Qas g (Qas f (Qan D))))).kz aj (tk1 (Qas (b := b2) n (Qas g (Qas f (Qas h (Qan u)))))))
     have i7 := (dV.kz aj (tk1 (Qas (b := b2) y (Qas n (Qas g (Qas f (Qas h (Qan u))))))))
     refine Qbk (α := Nat × List Qag × Int × Qab × Value × Nat × Nat × Value × Nat × Nat × Nat) ([4, 5] ++ rg 8 12) (fun ⟨n4, aL, bB, bH, vy44, zy44, gy44, vy47, zy47, gy47, oy47⟩ => [(4, .slice none 0 0), (5, vy44), (8, .int .i64 bB)]) (fun ⟨n4, aL, bB, bH, vy44, zy44, gy44, vy47, zy47, gy47, oy47⟩ wr => (Qcr (Qhi x1 G aF dd) n4 (aL, bB, bH) = some r) ∧ Own wr zy44 gy44 31 2 vy44 (aL.map Qag.cs) ∧ Hdn (zy44 = 0 ∨ br.heap.size ≤ gy44) ∧ Rd wr zy47 gy47 oy47 1 vy47 (bH.b.map bvc) ∧ Hdn (zy47 = 0 ∨ (gy47 = V ∧ U ≠ 0) ∨ br.heap.size ≤ gy47) ∧ Hdn (zy47 = 0 ∨ zy44 = 0 ∨ gy47 ≠ gy44) ∧ Bx wr b2 196 (Qab.cs bH vy47) ∧ Kz [(1, b2)] br wr) (fun ⟨n4, aL, bB, bH, vy44, zy44, gy44, vy47, zy47, gy47, oy47⟩ => n4) ⟨Qdn, [], 0, dd.2, (.slice none 0 0), 0, 0, b3, U, V, b5⟩ ?_ ?_ ?_
     · exact sbq
     · exact ⟨hm, (Qaw _ 0 31 2), ⟨(.inl rfl)⟩, a1, ⟨tk0⟩, ⟨(.inr (.inl rfl))⟩, de, Kz.refl _ _⟩
     clear hm; rintro ⟨n4, aL, bB, bH, vy44, zy44, gy44, vy47, zy47, gy47, oy47⟩ kI ⟨hm, ax, I, ay, E, bs, ad, b6⟩
     have i8 := b6.size
     have bu := ax.lth
     have hR := ay.lth
     have hS := ad.lt
     have hb := Qbt hm; clear hm; obtain ⟨n4, rfl, hm⟩ := hb
     generalize ef : Qcr (Qhi x1 G aF dd) n4 = i9 at hm
     unfold Qhi at hm
     try dsimp only at hm
     refine qs 1 rfl<|qv rfl (Qc9 (a := bB) (b := dd.1) rfl rfl)<|Qa1<|Qa3<|cnF rfl (fun c8 => ?_) (fun c8 => ?_)
     · replace hm := iF c8 hm
       refine Qbq<|Qb6<|Qb6<|Qbo<|Qaz<|qs 2 rfl ?_
       refine qm rfl<|qm rfl<|Qa1<|Qaf<|⟨_, _, rfl, Qay rfl (Qac rfl), ?_⟩
       refine qv rfl (Qa0 Qd9 rfl)<|qv rfl (Qa0 Qee rfl) ?_
       have fS := ((dU.kz aj).kz b6)
       refine qe rfl (Qct (cs' := Qa4.cs (Qa4.mk (wd8 x1.1) (w64 (un G.1)) (Qa8.mk [] aF.1 aL k0 k0) 0#8 0#64 [] k0) (.slice none 0 0) vy44 (.slice none 0 0)) (Qg3).siz rfl rfl (Own.oneB ax) fS rfl rfl) ?_
       rintro _ kJ ⟨fT, cC⟩
       have ja := cC.size
       refine Qa1<|qg 10 rfl<|qm rfl ?_
       have fU := (ad.md cC)
       have fV := (ay.md cC (Qas E (Qas B (Qas y (Qas n (Qas g (Qas f (Qan D))))))))
       obtain ⟨df, fW, hm⟩ := bnd hm
       refine qe rfl (eC Qpx rfl (Qcl fW fU fV ⟨(tk1 (Qas (b := b2) E (Qas B (Qas y (Qas n (Qas g (Qas f (Qas h (Qan u)))))))))⟩)) ?_
       rintro _ kK ⟨eU, eV, eW, eX, rfl, a3, M, dg, di⟩
       have jb := di.size
       have hT := a3.lth
       refine qm rfl ?_
       obtain ⟨dj, fX, hm⟩ := bnd hm
       refine qe rfl (eC Qpx rfl (Qcl fX dg a3 ⟨(tk1 (Qas (b := b2) M (Qas E (Qas B (Qas y (Qas n (Qas g (Qas f (Qas h (Qan u))))))))))⟩)) ?_
       rintro _ kL ⟨b7, b8, b9, ca, rfl, ba, W, dk, dl⟩
       have jc := dl.size
       have hU := ba.lth
       refine qv rfl (Qa0 Qd9 rfl)<|qv rfl (Qa0 Qlt rfl) ?_
       have fY := ((fT.kz di).kz dl)
       refine qe rfl (Qkp (cs' := Qa4.cs (Qa4.mk (wd8 x1.1) (w64 (un G.1)) (Qa8.mk [] aF.1 aL df.1 k0) 0#8 0#64 [] k0) (.slice none 0 0) vy44 (.slice none 0 0)) (vs := kb df.1) (Qai).siz rfl rfl rfl rfl rfl fY rfl rfl) ?_
       rintro _ kN ⟨fZ, cD⟩
       have jd := cD.size
       refine qv rfl (Qa0 Qd9 rfl)<|qv rfl (Qa0 Qn3 rfl)<|qe rfl (Qkp (cs' := Qa4.cs (Qa4.mk (wd8 x1.1) (w64 (un G.1)) (Qa8.mk [] aF.1 aL df.1 dj.1) 0#8 0#64 [] k0) (.slice none 0 0) vy44 (.slice none 0 0)) (vs := kb dj.1) (Qai).siz rfl rfl rfl rfl rfl fZ rfl rfl) ?_
       rintro _ hV ⟨f0, cE⟩
       have je := cE.size
       refine Qa9 ?_
       have K_152 : Kz [(1, b2), (1, b4)] w5 hV := ((((((((((((((Kz.kz (Kz.refl _ _) aC).md aK).kz aD).kz Q).md aE).kz aG).md ar).kz aj).kz b6).md cC).kz di).kz dl).md cD).md cE)
       have f1 := ((ba.md cD (Qas W (Qas M (Qas E (Qas B (Qas y (Qas n (Qas g (Qas f (Qan D)))))))))).md cE (Qas W (Qas M (Qas E (Qas B (Qas y (Qas n (Qas g (Qas f (Qan D))))))))))
       have f2 := (((((ax.md cC (Qca I)).kz di (tk1 (Qca (b := b2) I))).kz dl (tk1 (Qca (b := b2) I))).md cD (Qca I)).md cE (Qca I))
       have f3 := ((dk.md cD).md cE)
       exact ⟨rfl, ⟨dj.2, w64 (un G.1), [], aF.1, aL, df.1, dj.1, 0#8, 0#64, [], b7, b8, b9, ca, (.slice none 0 0), 0, 0, vy44, zy44, gy44, (.slice none 0 0), 0, 0⟩, sbq, hm, f1, ⟨(Qbw (A := (fun x => (x = j ∧ i ≠ 0) ∨ w5.heap.size ≤ x)) W (Qbw (A := (fun x => (x = j ∧ i ≠ 0) ∨ w5.heap.size ≤ x)) M (Qbw (A := (fun x => (x = j ∧ i ≠ 0) ∨ w5.heap.size ≤ x)) E (Qbw (A := (fun x => (x = j ∧ i ≠ 0) ∨ w5.heap.size ≤ x)) B (Qbw (A := (fun x => (x = j ∧ i ≠ 0) ∨ w5.heap.size ≤ x)) y (Qbw (A := (fun x => (x = j ∧ i ≠ 0) ∨ w5.heap.size ≤ x)) n (Qbw (A := (fun x => (x = j ∧ i ≠ 0) ∨ w5.heap.size ≤ x)) g (Qbw (A := (fun x => (x = j ∧ i ≠ 0) ∨ w5.heap.size ≤ x)) f tk0))))))))⟩, (Qaw _ 0 133 18), ⟨(.inl rfl)⟩, f2, ⟨(Qbn (A := (fun x => w5.heap.size ≤ x)) I)⟩, (Qaw _ 0 5 1), ⟨(.inl rfl)⟩, ⟨(.inl rfl)⟩, ⟨(Qgb (Qbw (A := (fun x => zy44 = 0 ∨ x ≠ gy44)) W (Qbw (A := (fun x => zy44 = 0 ∨ x ≠ gy44)) M (tk1 bs.o) (fun x hx => (tk1 bu.o))) (fun x hx => (tk1 bu.o))))⟩, ⟨(.inr (.inl rfl))⟩, ⟨(.inl rfl)⟩, ⟨(.inl rfl)⟩, ⟨(.inl rfl)⟩, f3, f0, K_152⟩
     replace hm := iT c8 hm
     refine qu<|Qa3<|Qao<|Qa3<|qs 4 rfl ?_
     refine qm rfl<|qv rfl (Qcc rfl rfl)<|qv rfl (Qa0 Qrg rfl)<|qv rfl (Qa2 (v := .bool bH.short) Qrn rfl ad rfl)<|Qa1<|cnF rfl (fun c9 => ?_) (fun c9 => ?_)
     · replace hm := Qc1 c9 hm
       refine qu<|qg 6 rfl<|qm rfl<|qm rfl ?_
       obtain ⟨eg, f4, hm⟩ := bnd hm
       refine qe rfl (Qcn Xh8 rfl rfl (Qks f4 ad ay ⟨(tk1 (Qas (b := b2) E (Qas B (Qas y (Qas n (Qas g (Qas f (Qas h (Qan u)))))))))⟩)) ?_
       rintro _ kO ⟨cb, bb, bc, cc, rfl, bd, ak, dp, eh⟩
       have jf := eh.size
       have ei := bd.lth
       refine qe rfl (Qcx [eg.1] Qag.cs Qnw rfl rfl (Qh6 rfl) rfl rfl rfl) ?_
       rintro jg kP ⟨jh, hW, dW, cF⟩
       have ji := cF.size
       have hX := dW.lth
       have f5 := ((ax.kz eh (tk1 (Qca (b := b2) I))).gr cF)
       obtain ⟨hY, f6, hm⟩ := bnd hm
       refine qe rfl (Qfn (l := aL) (m := [eg.1]) (c := Qag.cs) Qsc rfl rfl f5 (Own.rd dW) f6 (by decide)) ?_
       rintro f7 hZ ⟨f8, f9, ga, bN, jj, dX⟩
       have jk := bN.size
       refine qm rfl<|Qa9<|Qb1<|Qaz<|qg 2 rfl<|qv rfl (Qc6 (k := .i64) (a := bB) (b := 1) rfl rfl)<|qm rfl ?_
       refine Qa9 ?_
       have K_138 : Kz [(1, b2)] br hZ := (((b6.kz eh).gr cF).ka bN (tk1 (Qbn (A := (fun x => br.heap.size ≤ x)) I)))
       have gb := ((bd.gr cF).ka bN (tk1 (Qbw (A := (fun x => zy44 = 0 ∨ x ≠ gy44)) ak (tk1 bs.o) (fun x hx => (tk1 bu.o)))))
       have gc := ((dp.gr cF).ka bN (tk1 (Qca (b := b2) I)))
       subst ef
       exact ⟨rfl, ⟨n4, hY, w64 (bB + 1), eg.2, f7, f8, f9, cb, bb, bc, cc⟩, sbq, ⟨hm, ga, ⟨(Qg4 (A := (fun x => br.heap.size ≤ x)) dX (Qbn (A := (fun x => br.heap.size ≤ x)) I))⟩, gb, ⟨(Qbw (A := (fun x => (x = V ∧ U ≠ 0) ∨ br.heap.size ≤ x)) ak (Qbw (A := (fun x => (x = V ∧ U ≠ 0) ∨ br.heap.size ≤ x)) E tk0))⟩, ⟨(Qgb (Qg4 (A := (fun x => bb = 0 ∨ x ≠ bc)) dX (Qgb (Qbw (A := (fun x => zy44 = 0 ∨ x ≠ gy44)) ak (tk1 bs.o) (fun x hx => (tk1 bu.o)))) (fun x hx => (tk1 ei.o))))⟩, gc, K_138⟩, Nat.lt_succ_self _⟩
     replace hm := Qc0 c9 hm
     refine qs 1 rfl<|qm rfl<|qb<|Qbl ?_
     refine Qb2<|Qb2<|Qbl<|Qb2<|⟨_, _, rfl, Qay rfl (Qac rfl), ?_⟩
     refine qv rfl (Qa0 Qd9 rfl)<|qv rfl (Qa0 Qee rfl) ?_
     have gf := ((dU.kz aj).kz b6)
     refine qe rfl (Qct (cs' := Qa4.cs (Qa4.mk (wd8 x1.1) (w64 (un G.1)) (Qa8.mk [] aF.1 [] k0 k0) 0#8 0#64 [] k0) (.slice none 0 0) (.slice none 0 0) (.slice none 0 0)) (Qg3).siz rfl rfl rfl gf rfl rfl) ?_
     rintro _ kQ ⟨gg, dq⟩
     have jl := dq.size
     refine Qa1<|qg 10 rfl<|qm rfl ?_
     have gh := (ad.md dq)
     have gi := (ay.md dq (Qas E (Qas B (Qas y (Qas n (Qas g (Qas f (Qan D))))))))
     obtain ⟨dr, gj, hm⟩ := bnd hm
     refine qe rfl (eC Qpx rfl (Qcl gj gh gi ⟨(tk1 (Qas (b := b2) E (Qas B (Qas y (Qas n (Qas g (Qas f (Qas h (Qan u)))))))))⟩)) ?_
     rintro _ kR ⟨eY, eZ, e0, e1, rfl, bf, X, ds, ej⟩
     have jm := ej.size
     have h0 := bf.lth
     refine qm rfl ?_
     obtain ⟨dt, gk, hm⟩ := bnd hm
     refine qe rfl (eC Qpx rfl (Qcl gk ds bf ⟨(tk1 (Qas (b := b2) X (Qas E (Qas B (Qas y (Qas n (Qas g (Qas f (Qas h (Qan u))))))))))⟩)) ?_
     rintro _ kS ⟨cd, ce, cf, cg, rfl, bg, al, du, ek⟩
     have jn := ek.size
     have h1 := bg.lth
     refine qv rfl (Qa0 Qd9 rfl)<|qv rfl (Qa0 Qlt rfl) ?_
     have gl := ((gg.kz ej).kz ek)
     refine qe rfl (Qkp (cs' := Qa4.cs (Qa4.mk (wd8 x1.1) (w64 (un G.1)) (Qa8.mk [] aF.1 [] dr.1 k0) 0#8 0#64 [] k0) (.slice none 0 0) (.slice none 0 0) (.slice none 0 0)) (vs := kb dr.1) (Qai).siz rfl rfl rfl rfl rfl gl rfl rfl) ?_
     rintro _ kT ⟨gm, dv⟩
     have jo := dv.size
     refine qv rfl (Qa0 Qd9 rfl)<|qv rfl (Qa0 Qn3 rfl)<|qe rfl (Qkp (cs' := Qa4.cs (Qa4.mk (wd8 x1.1) (w64 (un G.1)) (Qa8.mk [] aF.1 [] dr.1 dt.1) 0#8 0#64 [] k0) (.slice none 0 0) (.slice none 0 0) (.slice none 0 0)) (vs := kb dt.1) (Qai).siz rfl rfl rfl rfl rfl gm rfl rfl) ?_
     rintro _ h2 ⟨gn, dy⟩
     have jp := dy.size
     refine Qa9 ?_
     have K_129 : Kz [(1, b2), (1, b4)] w5 h2 := ((((((((((((((Kz.kz (Kz.refl _ _) aC).md aK).kz aD).kz Q).md aE).kz aG).md ar).kz aj).kz b6).md dq).kz ej).kz ek).md dv).md dy)
     have go := ((bg.md dv (Qas al (Qas X (Qas E (Qas B (Qas y (Qas n (Qas g (Qas f (Qan D)))))))))).md dy (Qas al (Qas X (Qas E (Qas B (Qas y (Qas n (Qas g (Qas f (Qan D))))))))))
     have gp := ((du.md dv).md dy)
     exact ⟨rfl, ⟨dt.2, w64 (un G.1), [], aF.1, [], dr.1, dt.1, 0#8, 0#64, [], cd, ce, cf, cg, (.slice none 0 0), 0, 0, (.slice none 0 0), 0, 0, (.slice none 0 0), 0, 0⟩, sbq, hm, go, ⟨(Qbw (A := (fun x => (x = j ∧ i ≠ 0) ∨ w5.heap.size ≤ x)) al (Qbw (A := (fun x => (x = j ∧ i ≠ 0) ∨ w5.heap.size ≤ x)) X (Qbw (A := (fun x => (x = j ∧ i ≠ 0) ∨ w5.heap.size ≤ x)) E (Qbw (A := (fun x => (x = j ∧ i ≠ 0) ∨ w5.heap.size ≤ x)) B (Qbw (A := (fun x => (x = j ∧ i ≠ 0) ∨ w5.heap.size ≤ x)) y (Qbw (A := (fun x => (x = j ∧ i ≠ 0) ∨ w5.heap.size ≤ x)) n (Qbw (A := (fun x => (x = j ∧ i ≠ 0) ∨ w5.heap.size ≤ x)) g (Qbw (A := (fun x => (x = j ∧ i ≠ 0) ∨ w5.heap.size ≤ x)) f tk0))))))))⟩, (Qaw _ 0 133 18), ⟨(.inl rfl)⟩, (Qaw _ 0 31 2), ⟨(.inl rfl)⟩, (Qaw _ 0 5 1), ⟨(.inl rfl)⟩, ⟨(.inl rfl)⟩, ⟨(.inl rfl)⟩, ⟨(.inl rfl)⟩, ⟨(.inl rfl)⟩, ⟨(.inl rfl)⟩, ⟨(.inl rfl)⟩, gp, gn, K_129⟩
   replace hm := iF c6 hm
   refine Qbq<|Qb6<|Qb6<|Qbo<|Qaz<|qs 2 rfl ?_
   refine qm rfl<|qm rfl<|Qa1<|Qaf<|⟨_, _, rfl, Qay rfl (Qac rfl), ?_⟩
   refine qv rfl (Qa0 Qd9 rfl)<|qv rfl (Qa0 Qfw rfl) ?_
   have gq := ((dR.kz aD).kz Q)
   refine qe rfl (Qct (cs' := Qa4.cs (Qa4.mk (wd8 x1.1) (w64 (un G.1)) (Qa8.mk P 0#64 [] k0 k0) 0#8 0#64 [] k0) vy32 (.slice none 0 0) (.slice none 0 0)) (Qi5).siz rfl rfl (Own.oneB ab) gq rfl rfl) ?_
   rintro _ kU ⟨gs, aH⟩
   have jq := aH.size
   refine qd 5 rfl<|qm rfl ?_
   have gu := (ac.md aH)
   have dY := (av.md aH (Qas n (Qas g (Qas f (Qan D)))))
   obtain ⟨aI, gv, hm⟩ := bnd hm
   refine qe rfl (eC Qs8 rfl (Qcm gv gu dY ⟨(tk1 (Qas (b := b2) n (Qas g (Qas f (Qas h (Qan u))))))⟩)) ?_
   rintro _ kV ⟨e2, e3, e4, e5, rfl, bh, t, dz, aJ⟩
   have jr := aJ.size
   have h3 := bh.lth
   refine qv rfl (Qa0 Qd9 rfl)<|qv rfl (Qa0 Qlz rfl) ?_
   have gw := (gs.kz aJ)
   refine qe rfl (Qct (cs' := Qa4.cs (Qa4.mk (wd8 x1.1) (w64 (un G.1)) (Qa8.mk P aI.1 [] k0 k0) 0#8 0#64 [] k0) vy32 (.slice none 0 0) (.slice none 0 0)) (Qb7).siz rfl rfl rfl gw rfl rfl) ?_
   rintro _ kW ⟨dZ, au⟩
   have js := au.size
   refine qd 7 rfl<|qm rfl<|qm rfl<|qv rfl (Qdf rfl rfl)<|Qr3 21 Tryz.func133 rfl rfl rfl Xgs rfl rfl rfl rfl rfl ?_
   refine qs 1 rfl<|qm rfl<|qd 1 rfl<|qm rfl ?_
   refine Qa1<|Qa3<|qs 3 rfl<|qm rfl ?_
   have gx := (dz.md au)
   have d0 := (bh.md au (Qas t (Qas n (Qas g (Qas f (Qan D))))))
   obtain ⟨dA, gy, hm⟩ := bnd hm
   refine qe rfl (eC Qt6 rfl (Qd5 gy gx d0 ⟨(tk1 (Qas (b := b2) t (Qas n (Qas g (Qas f (Qas h (Qan u)))))))⟩)) ?_
   rintro _ bw ⟨ch, Y, Z, ci, rfl, bi, z, dB, am⟩
   have jt := am.size
   have h4 := bi.lth
   refine qm rfl<|Qa1<|Qao ?_
   have ju := (((((fz.kz Q).md aH).kz aJ).md au).kz am)
   have jv := (((((fA.kz Q (tk1 (Qan (b := b2) u))).md aH (Qan u)).kz aJ (tk1 (Qan (b := b2) u))).md au (Qan u)).kz am (tk1 (Qan (b := b2) u)))
   have jw := (((((fB.kz Q (tk1 (Qas (b := b2) h (Qan u)))).md aH (Qan D)).kz aJ (tk1 (Qas (b := b2) h (Qan u)))).md au (Qan D)).kz am (tk1 (Qas (b := b2) h (Qan u))))
   have jx := (((((fC.kz Q (tk1 (Qas (b := b2) f (Qas h (Qan u))))).md aH (Qas f (Qan D))).kz aJ (tk1 (Qas (b := b2) f (Qas h (Qan u))))).md au (Qas f (Qan D))).kz am (tk1 (Qas (b := b2) f (Qas h (Qan u)))))
   have jy := (((((T.kz Q (tk1 (Qas (b := b2) g (Qas f (Qas h (Qan u)))))).md aH (Qas g (Qas f (Qan D)))).kz aJ (tk1 (Qas (b := b2) g (Qas f (Qas h (Qan u)))))).md au (Qas g (Qas f (Qan D)))).kz am (tk1 (Qas (b := b2) g (Qas f (Qas h (Qan u))))))
   have d1 := ((((ab.md aH (Qca s)).kz aJ (tk1 (Qca (b := b2) s))).md au (Qca s)).kz am (tk1 (Qca (b := b2) s)))
   have jz := (((dY.kz aJ (tk1 (Qas (b := b2) n (Qas g (Qas f (Qas h (Qan u))))))).md au (Qas n (Qas g (Qas f (Qan D))))).kz am (tk1 (Qas (b := b2) n (Qas g (Qas f (Qas h (Qan u)))))))
   have jA := (d0.kz am (tk1 (Qas (b := b2) t (Qas n (Qas g (Qas f (Qas h (Qan u))))))))
   refine Qbk (α := Nat × List Qag × Int × Qab × Value × Nat × Nat × Value × Nat × Nat × Nat) ([4, 5] ++ rg 8 12) (fun ⟨n5, aM, bC, bI, vy64, zy64, gy64, vy67, zy67, gy67, oy67⟩ => [(4, .slice none 0 0), (5, vy64), (8, .int .i64 bC)]) (fun ⟨n5, aM, bC, bI, vy64, zy64, gy64, vy67, zy67, gy67, oy67⟩ wr => (Qcr (Qd7 x1 G P aI dA) n5 (aM, bC, bI) = some r) ∧ Own wr zy64 gy64 31 2 vy64 (aM.map Qag.cs) ∧ Hdn (zy64 = 0 ∨ bw.heap.size ≤ gy64) ∧ Rd wr zy67 gy67 oy67 1 vy67 (bI.b.map bvc) ∧ Hdn (zy67 = 0 ∨ (gy67 = Z ∧ Y ≠ 0) ∨ bw.heap.size ≤ gy67) ∧ Hdn (zy67 = 0 ∨ zy64 = 0 ∨ gy67 ≠ gy64) ∧ Bx wr b2 196 (Qab.cs bI vy67) ∧ Kz [(1, b2)] bw wr) (fun ⟨n5, aM, bC, bI, vy64, zy64, gy64, vy67, zy67, gy67, oy67⟩ => n5) ⟨Qdn, [], 0, dA.2, (.slice none 0 0), 0, 0, ch, Y, Z, ci⟩ ?_ ?_ ?_
   · exact sbq
   · exact ⟨hm, (Qaw _ 0 31 2), ⟨(.inl rfl)⟩, bi, ⟨tk0⟩, ⟨(.inr (.inl rfl))⟩, dB, Kz.refl _ _⟩
   clear hm; rintro ⟨n5, aM, bC, bI, vy64, zy64, gy64, vy67, zy67, gy67, oy67⟩ kX ⟨hm, az, F, aA, C, bx, ae, bD⟩
   have jB := bD.size
   have bz := az.lth
   have h5 := aA.lth
   have h6 := ae.lt
   have hb := Qbt hm; clear hm; obtain ⟨n5, rfl, hm⟩ := hb
   generalize el : Qcr (Qd7 x1 G P aI dA) n5 = jC at hm
   unfold Qd7 at hm
   try dsimp only at hm
   refine qs 1 rfl<|qv rfl (Qc9 (a := bC) (b := dA.1) rfl rfl)<|Qa1<|Qa3<|cnF rfl (fun em => ?_) (fun em => ?_)
   · replace hm := iF em hm
     refine Qbq<|Qb6<|Qb6<|Qbo<|Qaz<|qs 2 rfl ?_
     refine qm rfl<|qm rfl<|Qa1<|Qaf<|⟨_, _, rfl, Qay rfl (Qac rfl), ?_⟩
     refine qv rfl (Qa0 Qd9 rfl)<|qv rfl (Qa0 Qee rfl) ?_
     have gz := ((dZ.kz am).kz bD)
     refine qe rfl (Qct (cs' := Qa4.cs (Qa4.mk (wd8 x1.1) (w64 (un G.1)) (Qa8.mk P aI.1 aM k0 k0) 0#8 0#64 [] k0) vy32 vy64 (.slice none 0 0)) (Qg3).siz rfl rfl (Own.oneB az) gz rfl rfl) ?_
     rintro _ kY ⟨gA, cj⟩
     have jD := cj.size
     refine Qa1<|qg 10 rfl<|qm rfl ?_
     have gB := (ae.md cj)
     have gC := (aA.md cj (Qas C (Qas z (Qas t (Qas n (Qas g (Qas f (Qan D))))))))
     obtain ⟨dC, gD, hm⟩ := bnd hm
     refine qe rfl (eC Qpx rfl (Qcl gD gB gC ⟨(tk1 (Qas (b := b2) C (Qas z (Qas t (Qas n (Qas g (Qas f (Qas h (Qan u)))))))))⟩)) ?_
     rintro _ kZ ⟨e6, e7, e8, e9, rfl, bj, K, dD, cG⟩
     have jE := cG.size
     have h7 := bj.lth
     refine qm rfl ?_
     obtain ⟨dE, gE, hm⟩ := bnd hm
     refine qe rfl (eC Qpx rfl (Qcl gE dD bj ⟨(tk1 (Qas (b := b2) K (Qas C (Qas z (Qas t (Qas n (Qas g (Qas f (Qas h (Qan u))))))))))⟩)) ?_
     rintro _ la ⟨ck, cl, cm, cn, rfl, bk, N, dF, cH⟩
     have jF := cH.size
     have h8 := bk.lth
     refine qv rfl (Qa0 Qd9 rfl)<|qv rfl (Qa0 Qlt rfl) ?_
     have gF := ((gA.kz cG).kz cH)
     refine qe rfl (Qkp (cs' := Qa4.cs (Qa4.mk (wd8 x1.1) (w64 (un G.1)) (Qa8.mk P aI.1 aM dC.1 k0) 0#8 0#64 [] k0) vy32 vy64 (.slice none 0 0)) (vs := kb dC.1) (Qai).siz rfl rfl rfl rfl rfl gF rfl rfl) ?_
     rintro _ lb ⟨gG, co⟩
     have jG := co.size
     refine qv rfl (Qa0 Qd9 rfl)<|qv rfl (Qa0 Qn3 rfl)<|qe rfl (Qkp (cs' := Qa4.cs (Qa4.mk (wd8 x1.1) (w64 (un G.1)) (Qa8.mk P aI.1 aM dC.1 dE.1) 0#8 0#64 [] k0) vy32 vy64 (.slice none 0 0)) (vs := kb dE.1) (Qai).siz rfl rfl rfl rfl rfl gG rfl rfl) ?_
     rintro _ h9 ⟨gH, cp⟩
     have jH := cp.size
     refine Qa9 ?_
     have K_224 : Kz [(1, b2), (1, b4)] w5 h9 := ((((((((((((((Kz.kz (Kz.refl _ _) aC).md aK).kz aD).kz Q).md aH).kz aJ).md au).kz am).kz bD).md cj).kz cG).kz cH).md co).md cp)
     have gI := ((bk.md co (Qas N (Qas K (Qas C (Qas z (Qas t (Qas n (Qas g (Qas f (Qan D)))))))))).md cp (Qas N (Qas K (Qas C (Qas z (Qas t (Qas n (Qas g (Qas f (Qan D))))))))))
     have gJ := ((((((d1.kz bD (tk1 (Qca (b := b2) s))).md cj (Qca s)).kz cG (tk1 (Qca (b := b2) s))).kz cH (tk1 (Qca (b := b2) s))).md co (Qca s)).md cp (Qca s))
     have gK := (((((az.md cj (Qca F)).kz cG (tk1 (Qca (b := b2) F))).kz cH (tk1 (Qca (b := b2) F))).md co (Qca F)).md cp (Qca F))
     have gL := ((dF.md co).md cp)
     exact ⟨rfl, ⟨dE.2, w64 (un G.1), P, aI.1, aM, dC.1, dE.1, 0#8, 0#64, [], ck, cl, cm, cn, vy32, zy32, gy32, vy64, zy64, gy64, (.slice none 0 0), 0, 0⟩, sbq, hm, gI, ⟨(Qbw (A := (fun x => (x = j ∧ i ≠ 0) ∨ w5.heap.size ≤ x)) N (Qbw (A := (fun x => (x = j ∧ i ≠ 0) ∨ w5.heap.size ≤ x)) K (Qbw (A := (fun x => (x = j ∧ i ≠ 0) ∨ w5.heap.size ≤ x)) C (Qbw (A := (fun x => (x = j ∧ i ≠ 0) ∨ w5.heap.size ≤ x)) z (Qbw (A := (fun x => (x = j ∧ i ≠ 0) ∨ w5.heap.size ≤ x)) t (Qbw (A := (fun x => (x = j ∧ i ≠ 0) ∨ w5.heap.size ≤ x)) n (Qbw (A := (fun x => (x = j ∧ i ≠ 0) ∨ w5.heap.size ≤ x)) g (Qbw (A := (fun x => (x = j ∧ i ≠ 0) ∨ w5.heap.size ≤ x)) f tk0))))))))⟩, gJ, ⟨(Qbn (A := (fun x => w5.heap.size ≤ x)) s)⟩, gK, ⟨(Qbn (A := (fun x => w5.heap.size ≤ x)) F)⟩, (Qaw _ 0 5 1), ⟨(.inl rfl)⟩, ⟨(Qgb (Qbw (A := (fun x => zy32 = 0 ∨ x ≠ gy32)) N (Qbw (A := (fun x => zy32 = 0 ∨ x ≠ gy32)) K (Qbw (A := (fun x => zy32 = 0 ∨ x ≠ gy32)) C (Qbw (A := (fun x => zy32 = 0 ∨ x ≠ gy32)) z (Qbw (A := (fun x => zy32 = 0 ∨ x ≠ gy32)) t (tk1 aw.o) (fun x hx => (tk1 L.o))) (fun x hx => (tk1 L.o))) (fun x hx => (tk1 L.o))) (fun x hx => (tk1 L.o))) (fun x hx => (tk1 L.o))))⟩, ⟨(Qgb (Qbw (A := (fun x => zy64 = 0 ∨ x ≠ gy64)) N (Qbw (A := (fun x => zy64 = 0 ∨ x ≠ gy64)) K (tk1 bx.o) (fun x hx => (tk1 bz.o))) (fun x hx => (tk1 bz.o))))⟩, ⟨(Qbn (A := (fun x => zy32 = 0 ∨ x ≠ gy32)) F (fun x hx => (tk1 L.o)))⟩, ⟨(.inl rfl)⟩, ⟨(.inl rfl)⟩, ⟨(.inl rfl)⟩, gL, gH, K_224⟩
   replace hm := iT em hm
   refine qu<|Qa3<|Qao<|Qa3<|qs 4 rfl ?_
   refine qm rfl<|qv rfl (Qcc rfl rfl)<|qv rfl (Qa0 Qrg rfl)<|qv rfl (Qa2 (v := .bool bI.short) Qrn rfl ae rfl)<|Qa1<|cnF rfl (fun en => ?_) (fun en => ?_)
   · replace hm := Qc1 en hm
     refine qu<|qg 6 rfl<|qm rfl<|qm rfl ?_
     obtain ⟨eo, gM, hm⟩ := bnd hm
     refine qe rfl (Qcn Xh8 rfl rfl (Qks gM ae aA ⟨(tk1 (Qas (b := b2) C (Qas z (Qas t (Qas n (Qas g (Qas f (Qas h (Qan u)))))))))⟩)) ?_
     rintro _ lc ⟨cq, bl, bm, cr, rfl, bn, an, dG, ep⟩
     have jI := ep.size
     have er := bn.lth
     refine qe rfl (Qcx [eo.1] Qag.cs Qnw rfl rfl (Qh6 rfl) rfl rfl rfl) ?_
     rintro jJ ld ⟨jK, ia, d2, cI⟩
     have jL := cI.size
     have ib := d2.lth
     have gN := ((az.kz ep (tk1 (Qca (b := b2) F))).gr cI)
     obtain ⟨ie, gO, hm⟩ := bnd hm
     refine qe rfl (Qfn (l := aM) (m := [eo.1]) (c := Qag.cs) Qsc rfl rfl gN (Own.rd d2) gO (by decide)) ?_
     rintro gP ig ⟨gQ, gR, gS, bO, jM, d3⟩
     have jN := bO.size
     refine qm rfl<|Qa9<|Qb1<|Qaz<|qg 2 rfl<|qv rfl (Qc6 (k := .i64) (a := bC) (b := 1) rfl rfl)<|qm rfl ?_
     refine Qa9 ?_
     have K_210 : Kz [(1, b2)] bw ig := (((bD.kz ep).gr cI).ka bO (tk1 (Qbn (A := (fun x => bw.heap.size ≤ x)) F)))
     have gT := ((bn.gr cI).ka bO (tk1 (Qbw (A := (fun x => zy64 = 0 ∨ x ≠ gy64)) an (tk1 bx.o) (fun x hx => (tk1 bz.o)))))
     have gU := ((dG.gr cI).ka bO (tk1 (Qca (b := b2) F)))
     subst el
     exact ⟨rfl, ⟨n5, ie, w64 (bC + 1), eo.2, gP, gQ, gR, cq, bl, bm, cr⟩, sbq, ⟨hm, gS, ⟨(Qg4 (A := (fun x => bw.heap.size ≤ x)) d3 (Qbn (A := (fun x => bw.heap.size ≤ x)) F))⟩, gT, ⟨(Qbw (A := (fun x => (x = Z ∧ Y ≠ 0) ∨ bw.heap.size ≤ x)) an (Qbw (A := (fun x => (x = Z ∧ Y ≠ 0) ∨ bw.heap.size ≤ x)) C tk0))⟩, ⟨(Qgb (Qg4 (A := (fun x => bl = 0 ∨ x ≠ bm)) d3 (Qgb (Qbw (A := (fun x => zy64 = 0 ∨ x ≠ gy64)) an (tk1 bx.o) (fun x hx => (tk1 bz.o)))) (fun x hx => (tk1 er.o))))⟩, gU, K_210⟩, Nat.lt_succ_self _⟩
   replace hm := Qc0 en hm
   refine qs 1 rfl<|qm rfl<|qb<|Qbl ?_
   refine Qb2<|Qb2<|Qbl<|Qb2<|⟨_, _, rfl, Qay rfl (Qac rfl), ?_⟩
   refine qv rfl (Qa0 Qd9 rfl)<|qv rfl (Qa0 Qee rfl) ?_
   have gV := ((dZ.kz am).kz bD)
   refine qe rfl (Qct (cs' := Qa4.cs (Qa4.mk (wd8 x1.1) (w64 (un G.1)) (Qa8.mk P aI.1 [] k0 k0) 0#8 0#64 [] k0) vy32 (.slice none 0 0) (.slice none 0 0)) (Qg3).siz rfl rfl rfl gV rfl rfl) ?_
   rintro _ lf ⟨gW, cJ⟩
   have jO := cJ.size
   refine Qa1<|qg 10 rfl<|qm rfl ?_
   have gX := (ae.md cJ)
   have gY := (aA.md cJ (Qas C (Qas z (Qas t (Qas n (Qas g (Qas f (Qan D))))))))
   obtain ⟨dH, gZ, hm⟩ := bnd hm
   refine qe rfl (eC Qpx rfl (Qcl gZ gX gY ⟨(tk1 (Qas (b := b2) C (Qas z (Qas t (Qas n (Qas g (Qas f (Qas h (Qan u)))))))))⟩)) ?_
   rintro _ lh ⟨fa, fb, fc, fd, rfl, bo, O, dI, dJ⟩
   have jP := dJ.size
   have ih := bo.lth
   refine qm rfl ?_
   obtain ⟨dK, g0, hm⟩ := bnd hm
   refine qe rfl (eC Qpx rfl (Qcl g0 dI bo ⟨(tk1 (Qas (b := b2) O (Qas C (Qas z (Qas t (Qas n (Qas g (Qas f (Qas h (Qan u))))))))))⟩)) ?_
   rintro _ li ⟨ct, cu, cv, cw, rfl, bp, aa, dL, dM⟩
   have jQ := dM.size
   have ii := bp.lth
   refine qv rfl (Qa0 Qd9 rfl)<|qv rfl (Qa0 Qlt rfl) ?_
   have g1 := ((gW.kz dJ).kz dM)
   refine qe rfl (Qkp (cs' := Qa4.cs (Qa4.mk (wd8 x1.1) (w64 (un G.1)) (Qa8.mk P aI.1 [] dH.1 k0) 0#8 0#64 [] k0) vy32 (.slice none 0 0) (.slice none 0 0)) (vs := kb dH.1) (Qai).siz rfl rfl rfl rfl rfl g1 rfl rfl) ?_
   rintro _ lj ⟨g2, cK⟩
   have jR := cK.size
   refine qv rfl (Qa0 Qd9 rfl)<|qv rfl (Qa0 Qn3 rfl)<|qe rfl (Qkp (cs' := Qa4.cs (Qa4.mk (wd8 x1.1) (w64 (un G.1)) (Qa8.mk P aI.1 [] dH.1 dK.1) 0#8 0#64 [] k0) vy32 (.slice none 0 0) (.slice none 0 0)) (vs := kb dK.1) (Qai).siz rfl rfl rfl rfl rfl g2 rfl rfl) ?_
   rintro _ ij ⟨g3, cL⟩
   have jS := cL.size
   refine Qa9 ?_
   have K_200 : Kz [(1, b2), (1, b4)] w5 ij := ((((((((((((((Kz.kz (Kz.refl _ _) aC).md aK).kz aD).kz Q).md aH).kz aJ).md au).kz am).kz bD).md cJ).kz dJ).kz dM).md cK).md cL)
   have g4 := ((bp.md cK (Qas aa (Qas O (Qas C (Qas z (Qas t (Qas n (Qas g (Qas f (Qan D)))))))))).md cL (Qas aa (Qas O (Qas C (Qas z (Qas t (Qas n (Qas g (Qas f (Qan D))))))))))
   have g5 := ((((((d1.kz bD (tk1 (Qca (b := b2) s))).md cJ (Qca s)).kz dJ (tk1 (Qca (b := b2) s))).kz dM (tk1 (Qca (b := b2) s))).md cK (Qca s)).md cL (Qca s))
   have g6 := ((dL.md cK).md cL)
   exact ⟨rfl, ⟨dK.2, w64 (un G.1), P, aI.1, [], dH.1, dK.1, 0#8, 0#64, [], ct, cu, cv, cw, vy32, zy32, gy32, (.slice none 0 0), 0, 0, (.slice none 0 0), 0, 0⟩, sbq, hm, g4, ⟨(Qbw (A := (fun x => (x = j ∧ i ≠ 0) ∨ w5.heap.size ≤ x)) aa (Qbw (A := (fun x => (x = j ∧ i ≠ 0) ∨ w5.heap.size ≤ x)) O (Qbw (A := (fun x => (x = j ∧ i ≠ 0) ∨ w5.heap.size ≤ x)) C (Qbw (A := (fun x => (x = j ∧ i ≠ 0) ∨ w5.heap.size ≤ x)) z (Qbw (A := (fun x => (x = j ∧ i ≠ 0) ∨ w5.heap.size ≤ x)) t (Qbw (A := (fun x => (x = j ∧ i ≠ 0) ∨ w5.heap.size ≤ x)) n (Qbw (A := (fun x => (x = j ∧ i ≠ 0) ∨ w5.heap.size ≤ x)) g (Qbw (A := (fun x => (x = j ∧ i ≠ 0) ∨ w5.heap.size ≤ x)) f tk0))))))))⟩, g5, ⟨(Qbn (A := (fun x => w5.heap.size ≤ x)) s)⟩, (Qaw _ 0 31 2), ⟨(.inl rfl)⟩, (Qaw _ 0 5 1), ⟨(.inl rfl)⟩, ⟨(Qgb (Qbw (A := (fun x => zy32 = 0 ∨ x ≠ gy32)) aa (Qbw (A := (fun x => zy32 = 0 ∨ x ≠ gy32)) O (Qbw (A := (fun x => zy32 = 0 ∨ x ≠ gy32)) C (Qbw (A := (fun x => zy32 = 0 ∨ x ≠ gy32)) z (Qbw (A := (fun x => zy32 = 0 ∨ x ≠ gy32)) t (tk1 aw.o) (fun x hx => (tk1 L.o))) (fun x hx => (tk1 L.o))) (fun x hx => (tk1 L.o))) (fun x hx => (tk1 L.o))) (fun x hx => (tk1 L.o))))⟩, ⟨(.inl rfl)⟩, ⟨(.inl rfl)⟩, ⟨(.inl rfl)⟩, ⟨(.inl rfl)⟩, ⟨(.inl rfl)⟩, g6, g3, K_200⟩
 clear hm; rintro ⟨a2, a4, a5, a6, a7, a8, a9, bR, bS, bF, vy3, zy3, gy3, oy3, vy13, zy13, gy13, vy14, zy14, gy14, vy15, zy15, gy15⟩ w6 ⟨hm, cM, cN, bJ, ao, bK, ap, bL, aq, ik, il, dN, hp, dO, dP, bP, bQ, K6⟩
 have ll := K6.size
 have jT := cM.lth
 have jU := bJ.lth
 have jV := bK.lth
 have jW := bL.lth
 have jX := bP.lt
 have jY := bQ.lt
 unfold Qdi at hm
 refine qs 4 rfl<|qm rfl ?_
 obtain ⟨cx, g7, hm⟩ := bnd hm
 refine qe rfl (eC Qpx rfl (Qcl g7 bP cM ⟨(tk1 (Qas (b := b2) cN (Qas h (Qan u))))⟩)) ?_
 rintro _ w7 ⟨cO, g8, g9, ha, rfl, bE, cP, es, K7⟩
 have lm := K7.size
 have jZ := bE.lth
 refine qv rfl (Qa0 Qos rfl) ?_
 have im := (bQ.kz K7)
 refine qe rfl (Qkp (cs' := Qa4.cs (Qa4.mk (wd8 x1.1) a4 (Qa8.mk a5 a6 a7 a8 a9) bR bS bF cx.1) vy13 vy14 vy15) (vs := kb cx.1) (Qai).siz rfl rfl rfl rfl rfl im rfl rfl) ?_
 rintro _ w8 ⟨hc, M8⟩
 have ln := M8.size
 refine Qa1<|Qa3 ?_
 have hd := (((d5.kz K6).kz K7).md M8)
 refine qj (β := Bool) (rg 66 17) (fun dQ => [(82, .bool dQ)]) (fun dQ wr => (Qfu x1 a4 a5 a6 a7 a8 a9 bR bS bF cx dQ = some r) ∧ Kz [] w8 wr) ?_ ?_
 · refine qg 17 rfl<|qm rfl<|qv rfl (Qcc rfl rfl)<|qv rfl (Qa0 Qrg rfl) ?_
   have he := (es.md M8)
   refine qv rfl (Qa2 (v := .bool cx.2.short) Qrn rfl he rfl)<|qp rfl (Qad rfl) (fun c2 => ?_) (fun c2 => ?_)
   · replace hm := Qc0 c2 hm
     refine qk rfl<|qk rfl<|qk rfl<|qk rfl<|qk rfl<|qk rfl<|qm rfl ?_
     refine qm rfl<|qk rfl<|qk rfl<|qk rfl<|qm rfl<|Qa9 ?_
     exact ⟨rfl, true, sbq, hm, kz0⟩
   replace hm := Qc1 c2 hm
   refine qm rfl<|qv rfl (Qcc rfl rfl)<|qv rfl (Qa0 Qpp rfl)<|qv rfl (Qa2 (v := cO) Qg2 rfl he rfl) ?_
   have io := (bE.md M8 (Qas cP (Qas cN (Qan D))))
   refine qv rfl (Qba (l := cx.2.b) (c := bvc) Tryz.underlying50 rfl io)<|qv rfl (Qe8 (a := (cx.2.b.length : Int)) (b := 0) rfl rfl)<|qm rfl<|qp rfl (Qad rfl) (fun c3 => ?_) (fun c3 => ?_)
   · replace hm := iT c3 hm
     refine qk rfl<|qk rfl<|qk rfl<|qm rfl<|Qa9 ?_
     exact ⟨rfl, true, sbq, hm, kz0⟩
   replace hm := iF c3 hm
   refine qv rfl (Qa6 Qbu rfl hc rfl) ?_
   have ip := ((bJ.kz K7 (tk1 (Qca (b := b2) ao))).md M8 (Qca ao))
   have iq := ((bK.kz K7 (tk1 (Qca (b := b2) ap))).md M8 (Qca ap))
   have ir := ((bL.kz K7 (tk1 (Qca (b := b2) aq))).md M8 (Qca aq))
   obtain ⟨hf, hg, hm⟩ := bnd hm
   refine qe rfl (eC Xf8 rfl (Qgg hg (Own.rd ip) (Own.rd iq) (Own.rd ir))) ?_
   rintro _ lo ⟨rfl, hh⟩
   have lq := hh.size
   refine qv rfl (Qby (a := hf) (b := 0) rfl rfl)<|qm rfl<|Qa9 ?_
   exact ⟨rfl, (decide (hf ≠ 0)), sbq, hm, (kz0.gr hh)⟩
 clear hm; rintro dQ w9 ⟨hm, K9⟩
 have lr := K9.size
 unfold Qfu at hm
 refine Qal rfl (fun c1 => ?_) (fun c1 => ?_)
 · replace hm := Qc0 c1 hm
   refine qs 3 rfl<|qv rfl (Qau (cs := Qa4.cs (Qa4.mk 0#8 0 (Qa8.mk [] 0#64 [] k0 k0) 0#8 0#64 [] k0) (.slice none 0 0) (.slice none 0 0) (.slice none 0 0)) Qv2 rfl (by kernel_rfl)) ?_
   have it := ((((((((cR.gr G2).kz K3).gr G4).md M5).kz K6).kz K7).md M8).kz K9)
   refine qe rfl (Qah Qbu rfl rfl (Qa4.cs_ones _ _ _ _ rfl rfl rfl) it rfl rfl) ?_
   rintro _ ls ⟨hi, hj⟩
   have lu := hj.size
   refine qm rfl<|qb ?_
   have iu := ((hd.kz K9).md hj)
   cases hm
   refine ⟨_, _, rfl, Qbm rfl (Qaq Qbu rfl hi rfl) (Qac rfl), ?_⟩
   exact ⟨(.slice none 0 0), 0, 0, (.slice none 0 0), 0, 0, (.slice none 0 0), 0, 0, rfl, (Qaw _ 0 133 18), ⟨.inl rfl⟩, (Qaw _ 0 31 2), ⟨.inl rfl⟩, (Qaw _ 0 5 1), ⟨.inl rfl⟩, ⟨(.inl rfl)⟩, ⟨(.inl rfl)⟩, ⟨(.inl rfl)⟩, iu⟩
 replace hm := Qc1 c1 hm
 refine qu<|qs 3 rfl ?_
 have iv := (hc.kz K9)
 refine qv rfl (Qa6 Qbu rfl iv rfl) ?_
 have iw := ((((((((cR.gr G2).kz K3).gr G4).md M5).kz K6).kz K7).md M8).kz K9)
 have hk := (((bJ.kz K7 (tk1 (Qca (b := b2) ao))).md M8 (Qca ao)).kz K9)
 have hl := (((bK.kz K7 (tk1 (Qca (b := b2) ap))).md M8 (Qca ap)).kz K9)
 have hn := (((bL.kz K7 (tk1 (Qca (b := b2) aq))).md M8 (Qca aq)).kz K9)
 refine qe rfl (Qah Qbu rfl rfl (Qa4.cs_ones _ _ _ _ (Own.oneB hk) (Own.oneB hl) (Own.oneB hn)) iw rfl rfl) ?_
 rintro _ lv ⟨ho, cQ⟩
 have lw := cQ.size
 refine qm rfl<|Qa1<|Qaf ?_
 have ix := (hk.md cQ (Qca ao))
 have iy := (hl.md cQ (Qca ap))
 have iz := (hn.md cQ (Qca aq))
 have iA := ((hd.kz K9).md cQ)
 cases hm
 refine ⟨_, _, rfl, Qbm rfl (Qaq Qbu rfl ho rfl) (Qac rfl), ?_⟩
 exact ⟨vy13, zy13, gy13, vy14, zy14, gy14, vy15, zy15, gy15, rfl, ix, ⟨(Qbn (A := (fun x => w.heap.size ≤ x)) ao)⟩, iy, ⟨(Qbn (A := (fun x => w.heap.size ≤ x)) ap)⟩, iz, ⟨(Qbn (A := (fun x => w.heap.size ≤ x)) aq)⟩, ⟨(tk1 dN.o)⟩, ⟨(tk1 dO.o)⟩, ⟨(tk1 dP.o)⟩, iA⟩
end Go.Proofs.YtjdffpglgkefmaaGreat.Mx
