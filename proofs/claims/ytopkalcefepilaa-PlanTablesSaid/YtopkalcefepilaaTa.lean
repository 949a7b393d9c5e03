/- Walks that follow mirrors: Ta. Printed by mx.py. -/
import Derived.Test.YtopkalcefepilaaGt
import Derived.Test.YtopkalcefepilaaZd
set_option linter.unusedVariables false
set_option linter.unusedSimpArgs false
set_option maxRecDepth 100000
set_option maxHeartbeats 2000000
namespace Go.Proofs.Ytopkalcefepilaa.Mx
open Go Go.RowKit Go.Sx
theorem en_19 : En Try.prog 19 := fun _ _ => by kernel_rfl
theorem en_49 : En Try.prog 49 := fun _ _ => by kernel_rfl
theorem en_42 : En Try.prog 42 := fun _ _ => by kernel_rfl
theorem en_21 : En Try.prog 21 := fun _ _ => by kernel_rfl
theorem en_22 : En Try.prog 22 := fun _ _ => by kernel_rfl
theorem en_23 : En Try.prog 23 := fun _ _ => by kernel_rfl
theorem en_24 : En Try.prog 24 := fun _ _ => by kernel_rfl
theorem ref10_Great_w (p0 : List (List (List Int))) (vp0 : Value) (zp0 gp0 op0 : Nat) (Fp0 : List Nat) (r : Bool) (hm : ref10_Great p0 = some r) (w : World) (hp0 : RdD (rpSd (rpSl 1 ic)) w zp0 gp0 op0 vp0 Fp0 p0)  :
    Calls Try.prog 19 [vp0].toArray w fun e w' => ∃ v, e = .returned v ∧ (v = .bool r ∧ Gr w w') := by
 have fl1 := hp0.flt
 have lt2 := hp0.lth
 unfold ref10_Great at hm
 refine calls_of_sw 37 Try.func19 rfl rfl rfl<|qs 1 rfl<|qm rfl<|qd 1 rfl ?_
 refine qm rfl<|sd_done<|sw_seq<|qs 1 rfl<|qm rfl<|sd_done ?_
 refine sw_block<|sw_loopD (α := Nat × Int × Int) (rg 2 32) (fun ⟨n1, a3, a4⟩ => [(2, .bool false), (3, .int .i64 a3), (4, .int .i64 a4)]) (fun ⟨n1, a3, a4⟩ wr => (fixN (ref10_Great_L1 p0) n1 (a3, a4) = some r) ∧ Kz [] w wr) (fun ⟨n1, a3, a4⟩ => n1) ⟨FUEL, 0, 0⟩ ?_ ?_ ?_
 · exact sbq
 · exact ⟨hm, Kz.refl _ _⟩
 clear hm; rintro ⟨n1, a3, a4⟩ w1 ⟨hm, K1⟩
 have z3 := K1.size
 have hb := fix_succ hm; clear hm; obtain ⟨n1, rfl, hm⟩ := hb
 generalize hrec1 : fixN (ref10_Great_L1 p0) n1 = rec1 at hm
 unfold ref10_Great_L1 at hm
 try dsimp only at hm
 refine sw_seq<|qs 4 rfl<|qm rfl<|qm rfl ?_
 have B4 := (hp0.kz K1 tk0 (fun x hx => tk0))
 refine qv rfl (vv_lenD (l := p0) Try.underlying39 rfl B4)<|qv rfl (vv_lss (a := a4) (b := (p0.length : Int)) rfl rfl)<|sd_done<|cnF rfl (fun c1 => ?_) (fun c1 => ?_)
 · replace hm := iF c1 hm
   refine sw_exit<|then_x<|then_x<|block_x<|then_n<|qs 4 rfl ?_
   refine qm rfl<|qv rfl (vv_lenD (l := p0) Try.underlying39 rfl B4)<|qv rfl (vv_gtr (a := (p0.length : Int)) (b := 20) rfl rfl)<|qm rfl<|sd_done<|sw_ret ?_
   have X17 := ((Gr.refl w).kz K1)
   cases hm
   refine ⟨_, _, rfl, res_1 rfl (rv_tmp rfl), ?_⟩
   exact ⟨rfl, X17⟩
 replace hm := iT c1 hm
 refine qu<|sw_seq<|sw_block<|qs 1 rfl<|qm rfl ?_
 refine sd_done<|sw_block ?_
 have X5 := ((Gr.refl w).kz K1)
 refine sw_loopD (α := Nat × Int × Int) ([2, 3, 5] ++ rg 12 22) (fun ⟨n2, a7, a8⟩ => [(2, .bool false), (3, .int .i64 a7), (5, .int .i64 a8)]) (fun ⟨n2, a7, a8⟩ wr => (fixN (ref10_Great_L2 p0 a4 rec1) n2 (a7, a8) = some r) ∧ Kz [] w1 wr) (fun ⟨n2, a7, a8⟩ => n2) ⟨FUEL, a3, 0⟩ ?_ ?_ ?_
 · exact sbq
 · exact ⟨hm, Kz.refl _ _⟩
 clear hm; rintro ⟨n2, a7, a8⟩ w2 ⟨hm, K2⟩
 have z6 := K2.size
 have hb := fix_succ hm; clear hm; obtain ⟨n2, rfl, hm⟩ := hb
 generalize hrec2 : fixN (ref10_Great_L2 p0 a4 rec1) n2 = rec2 at hm
 unfold ref10_Great_L2 at hm
 try dsimp only at hm
 refine sw_seq<|qs 7 rfl<|qm rfl<|qm rfl<|qm rfl ?_
 obtain ⟨y9, hy9, hm⟩ := bnd hm
 have B7 := (B4.kz K2 tk0 (fun x hx => tk0))
 refine qv rfl (vv_ixD (i := a4) Try.underlying39 (one_73).siz rfl B7 rfl hy9) ?_
 obtain ⟨lg8, x8_, z8_, g8_, o8_, R8, gx8, Q8, pf8⟩ := atSd B7 hy9
 have lt9 := Q8.lth
 refine qv rfl (vv_el1T (c := (fun p => [p.2])) (q := 0) (u := x8_) one_73 rfl R8 gx8 (by first | rfl | omega) rfl)<|qv rfl (vv_lenD (l := y9) Try.underlying73 rfl Q8)<|qv rfl (vv_lss (a := a8) (b := (y9.length : Int)) rfl rfl)<|sd_done<|cnF rfl (fun c2 => ?_) (fun c2 => ?_)
 · replace hm := iF c2 hm
   refine sw_exit<|then_x<|then_x<|block_x<|block_n<|then_n<|qg 3 rfl ?_
   refine qm rfl<|qv rfl (vv_add (k := .i64) (a := a4) (b := 1) rfl rfl)<|qm rfl<|sd_nil ?_
   have K_16 : Kz [] w w2 := (K1.kz K2)
   subst hrec1
   exact ⟨rfl, ⟨n1, a7, w64 (a4 + 1)⟩, sbq, ⟨hm, K_16⟩, Nat.lt_succ_self _⟩
 replace hm := iT c2 hm
 refine qu<|sw_seq<|sw_block<|qs 12 rfl<|qm rfl ?_
 refine qm rfl<|qm rfl ?_
 obtain ⟨y10, hy10, hm⟩ := bnd hm
 refine qv rfl (vv_ixD (i := a4) Try.underlying39 (one_73).siz rfl B7 rfl hy10) ?_
 obtain ⟨lg10, x10_, z10_, g10_, o10_, R10, gx10, Q10, pf10⟩ := atSd B7 hy10
 have lt11 := Q10.lth
 refine qv rfl (vv_el1T (c := (fun p => [p.2])) (q := 0) (u := x10_) one_73 rfl R10 gx10 (by first | rfl | omega) rfl)<|qm rfl ?_
 obtain ⟨y11, hy11, hm⟩ := bnd hm
 refine qv rfl (vv_ixD (i := a8) Try.underlying73 (one_32).siz rfl Q10 rfl hy11) ?_
 obtain ⟨lg12, x12_, z12_, g12_, o12_, R12, gx12, Q12, pf12⟩ := atSl Q10 hy11
 have lt13 := Q12.lth
 refine qv rfl (vv_el1T (c := (fun p => [p.2])) (q := 0) (u := x12_) one_32 rfl R12 gx12 (by first | rfl | omega) rfl)<|qv rfl (vv_lenT (l := y11) (c := ic) Try.underlying32 rfl Q12)<|qv rfl (vv_add (k := .i64) (a := 1) (b := (y11.length : Int)) rfl rfl)<|qv rfl (vv_add (k := .i64) (a := a7) (b := w64 (1 + (y11.length : Int))) rfl rfl)<|qm rfl<|sd_done<|sw_seq ?_
 refine qg 2 rfl<|qm rfl<|qv rfl (vv_gtr (a := w64 (a7 + (w64 (1 + (y11.length : Int))))) (b := 2000) rfl rfl)<|sd_done<|sw_cond rfl (fun c3 => ?_) (fun c3 => ?_)
 · replace hm := iT c3 hm
   refine qs 1 rfl<|qm rfl<|sd_done<|sw_ret<|block_r<|then_r ?_
   refine then_r<|block_r<|block_r<|then_r<|then_r<|block_r<|then_r ?_
   have X14 := (X5.kz K2)
   cases hm
   refine ⟨_, _, rfl, res_1 rfl (rv_tmp rfl), ?_⟩
   exact ⟨rfl, X14⟩
 replace hm := iF c3 hm
 refine sw_skip<|block_n<|then_n<|qg 3 rfl<|qm rfl<|qv rfl (vv_add (k := .i64) (a := a8) (b := 1) rfl rfl)<|qm rfl ?_
 refine sd_nil ?_
 have K_15 : Kz [] w1 w2 := K2
 subst hrec2
 exact ⟨rfl, ⟨n2, w64 (a7 + (w64 (1 + (y11.length : Int)))), w64 (a8 + 1)⟩, sbq, ⟨hm, K_15⟩, Nat.lt_succ_self _⟩
theorem ref10_Tables_w (p0 : TScheme)  (r : List (List (List Int)) × Int) (hm : ref10_Tables p0 = some r) (w : World)   :
    Calls Try.prog 21 [.agg (TScheme.cs p0).toArray].toArray w fun e w' => ∃ v, e = .returned v ∧ (∃ (ur0_s : Value) (zr0_s : Nat) (gr0_s : Nat) (Fr0_s : List Nat), v = .tuple [ur0_s, .int .i64 r.2].toArray ∧ OwnD (rpSd (rpSl 1 ic)) w' zr0_s gr0_s 73 ur0_s Fr0_s r.1 ∧ Hdn (zr0_s = 0 ∨ w.heap.size ≤ gr0_s) ∧ (∀ x ∈ Fr0_s, Pv [] [] w.heap.size x) ∧ Gr w w') := by
 unfold ref10_Tables at hm
 refine calls_of_sw 12 Try.func21 rfl rfl rfl<|qs 3 rfl<|qe rfl (ev_box (cs := TScheme.cs p0) rfl rfl) ?_
 rintro _ w1 ⟨b1, rfl, hbw1, Bw1, G1⟩
 have z1 := G1.size
 have lt2 := Bw1.lt
 refine qm rfl<|qm rfl<|sd_done<|sw_seq<|qs 3 rfl<|qv rfl (vv_loadW agg_26 rfl Bw1 rfl) ?_
 obtain ⟨x1, hx1, hm⟩ := bnd hm
 refine qe rfl (eC en_49 rfl (ref03_Check_w hx1)) ?_
 rintro _ w2 ⟨rfl, G2⟩
 have z3 := G2.size
 refine qm rfl<|qd 2 rfl<|qm rfl<|qv rfl (vv_neq (a := x1) (b := 0) rfl rfl)<|sd_done ?_
 refine sw_cond rfl (fun c1 => ?_) (fun c1 => ?_)
 · replace hm := iT c1 hm
   refine qs 3 rfl<|qm rfl<|qm rfl<|qm rfl<|sd_done<|sw_ret ?_
   refine then_r ?_
   have X4 := (((Gr.refl w).trans G1).trans G2)
   cases hm
   refine ⟨_, _, rfl, res_2 rfl (rv_tmp rfl) (rv_tmp rfl), ?_⟩
   exact ⟨(.slice none 0 0), 0, 0, [], rfl, (ownD_nil (rpSd (rpSl 1 ic)) _ 0 73), ⟨.inl rfl⟩, fA_nil, X4⟩
 replace hm := iF c1 hm
 refine qu<|qs 4 rfl ?_
 have B5 := (Bw1.gr G2)
 refine qv rfl (vv_loadW agg_26 rfl B5 rfl) ?_
 obtain ⟨x2, hx2, hm⟩ := bnd hm
 refine qe rfl (eC en_42 rfl (ref10_TablesOf_w p0 _ hx2 _)) ?_
 rintro u3_r0_s w3 ⟨_, z3_r0_s, g3_r0_s, F3_r0_s, rfl, O3_r0_s, f3_r0_s, p3_r0_s, G3⟩
 have z6 := G3.size
 have fl7 := O3_r0_s.flt
 have lt8 := O3_r0_s.lth
 refine qm rfl<|qm rfl<|sd_done<|sw_ret ?_
 have X9 := ((((Gr.refl w).trans G1).trans G2).trans G3)
 cases hm
 refine ⟨_, _, rfl, res_2 rfl (rv_tmp rfl) (rv_tmp rfl), ?_⟩
 exact ⟨u3_r0_s, z3_r0_s, g3_r0_s, F3_r0_s, rfl, O3_r0_s, ⟨(pv_0 (A := (fun x => w.heap.size ≤ x)) f3_r0_s)⟩, (fA_pv (A := (Pv [] [] w.heap.size)) p3_r0_s fA_nil mz_nil (fun x hx => .inr (.inr (by omega)))), X9⟩
theorem ref10_CheckTables_w (p0 : TScheme) (p1 : List (List (List Int))) (vp1 : Value) (zp1 gp1 op1 : Nat) (Fp1 : List Nat) (r : Int) (hm : ref10_CheckTables p0 p1 = some r) (w : World) (hp1 : RdD (rpSd (rpSl 1 ic)) w zp1 gp1 op1 vp1 Fp1 p1)  :
    Calls Try.prog 24 [.agg (TScheme.cs p0).toArray, vp1].toArray w fun e w' => ∃ v, e = .returned v ∧ (v = .int .i64 r ∧ Gr w w') := by
 have fl1 := hp1.flt
 have lt2 := hp1.lth
 unfold ref10_CheckTables at hm
 refine calls_of_sw 16 Try.func24 rfl rfl rfl<|qs 2 rfl<|qe rfl (ev_box (cs := TScheme.cs p0) rfl rfl) ?_
 rintro _ w1 ⟨b1, rfl, hbw1, Bw1, G1⟩
 have z3 := G1.size
 have lt4 := Bw1.lt
 refine qm rfl<|sd_done<|sw_seq<|qs 3 rfl<|qv rfl (vv_loadW agg_26 rfl Bw1 rfl) ?_
 obtain ⟨x1, hx1, hm⟩ := bnd hm
 refine qe rfl (eC en_49 rfl (ref03_Check_w hx1)) ?_
 rintro _ w2 ⟨rfl, G2⟩
 have z5 := G2.size
 refine qm rfl<|qd 2 rfl<|qm rfl<|qv rfl (vv_neq (a := x1) (b := 0) rfl rfl)<|sd_done ?_
 refine sw_cond rfl (fun c1 => ?_) (fun c1 => ?_)
 · replace hm := iT c1 hm
   refine qs 2 rfl<|qm rfl<|qm rfl<|sd_done<|sw_ret<|then_r ?_
   have Y1 := Gr.trans G1 G2
   have X6 := ((Gr.refl w).trans Y1)
   cases hm
   refine ⟨_, _, rfl, res_1 rfl (rv_tmp rfl), ?_⟩
   exact ⟨rfl, X6⟩
 replace hm := iF c1 hm
 refine qu<|sw_seq<|qs 5 rfl<|qm rfl ?_
 have B7 := (Bw1.gr G2)
 refine qv rfl (vv_loadW agg_26 rfl B7 rfl) ?_
 obtain ⟨x2, hx2, hm⟩ := bnd hm
 refine qe rfl (eC en_42 rfl (ref10_TablesOf_w p0 _ hx2 _)) ?_
 rintro u3_r0_s w3 ⟨_, z3_r0_s, g3_r0_s, F3_r0_s, rfl, O3_r0_s, f3_r0_s, p3_r0_s, G3⟩
 have z8 := G3.size
 have fl9 := O3_r0_s.flt
 have lt10 := O3_r0_s.lth
 have Y2 := Gr.trans (Gr.trans G1 G2) G3
 have B11 := (hp1.gr Y2)
 obtain ⟨x3, hx3, hm⟩ := bnd hm
 refine qe rfl (eC en_22 rfl (ref10_SameTables_w p1 x2 _ _ _ _ _ _ _ _ _ _ _ hx3 _ B11 (OwnD.rd O3_r0_s))) ?_
 rintro _ w4 ⟨rfl, G4⟩
 have z12 := G4.size
 refine qv rfl (vv_not rfl)<|sd_done<|sw_cond rfl (fun c2 => ?_) (fun c2 => ?_)
 · replace hm := cnd_t c2 hm
   refine qs 1 rfl<|qm rfl<|qb ?_
   have X13 := (((Gr.refl w).trans Y2).trans G4)
   cases hm
   refine ⟨_, _, rfl, res_1 rfl (rv_tmp rfl), ?_⟩
   exact ⟨rfl, X13⟩
 replace hm := cnd_f c2 hm
 refine qu<|qs 1 rfl<|qm rfl<|sd_done<|sw_ret ?_
 have X14 := (((Gr.refl w).trans Y2).trans G4)
 cases hm
 refine ⟨_, _, rfl, res_1 rfl (rv_tmp rfl), ?_⟩
 exact ⟨rfl, X14⟩
theorem law10_PlanTables_w (p0 : TScheme) (p1 : List (List (List Int))) (vp1 : Value) (zp1 gp1 op1 : Nat) (Fp1 : List Nat) (r : Bool) (hm : law10_PlanTables p0 p1 = some r) (w : World) (hp1 : RdD (rpSd (rpSl 1 ic)) w zp1 gp1 op1 vp1 Fp1 p1)  :
    Calls Try.prog 4 [.agg (TScheme.cs p0).toArray, vp1].toArray w fun e w' => ∃ v, e = .returned v ∧ (v = .bool r ∧ Gr w w') := by
 have fl1 := hp1.flt
 have lt2 := hp1.lth
 unfold law10_PlanTables at hm
 refine calls_of_sw 38 Try.func4 rfl rfl rfl<|qs 2 rfl<|qe rfl (ev_box (cs := TScheme.cs p0) rfl rfl) ?_
 rintro _ w1 ⟨b1, rfl, hbw1, Bw1, G1⟩
 have z3 := G1.size
 have lt4 := Bw1.lt
 refine qm rfl<|sd_done<|sw_seq<|qs 2 rfl<|qm rfl ?_
 have B5 := (hp1.gr G1)
 obtain ⟨x1, hx1, hm⟩ := bnd hm
 refine qe rfl (eC en_19 rfl (ref10_Great_w p1 _ _ _ _ _ _ hx1 _ B5)) ?_
 rintro _ w2 ⟨rfl, G2⟩
 have z6 := G2.size
 refine sd_done<|sw_cond rfl (fun c1 => ?_) (fun c1 => ?_)
 · replace hm := cnd_t c1 hm
   refine qs 1 rfl<|qm rfl<|qb ?_
   have Y1 := Gr.trans G1 G2
   have X7 := ((Gr.refl w).trans Y1)
   cases hm
   refine ⟨_, _, rfl, res_1 rfl (rv_tmp rfl), ?_⟩
   exact ⟨rfl, X7⟩
 replace hm := cnd_f c1 hm
 refine qu<|qs 7 rfl ?_
 have B8 := (Bw1.gr G2)
 refine qv rfl (vv_loadW agg_26 rfl B8 rfl) ?_
 obtain ⟨x2, hx2, hm⟩ := bnd hm
 refine qe rfl (eC en_20 rfl (plan_Tables_w p0 _ hx2 _)) ?_
 rintro _ w3 ⟨u3_r0_s, z3_r0_s, g3_r0_s, F3_r0_s, rfl, O3_r0_s, f3_r0_s, p3_r0_s, G3⟩
 have z9 := G3.size
 have fl10 := O3_r0_s.flt
 have lt11 := O3_r0_s.lth
 refine qm rfl<|qm rfl<|qm rfl<|qm rfl<|qm rfl<|sd_done<|sw_seq ?_
 refine qg 7 rfl ?_
 have B12 := (B8.gr G3)
 refine qv rfl (vv_loadW agg_26 rfl B12 rfl) ?_
 obtain ⟨x3, hx3, hm⟩ := bnd hm
 refine qe rfl (eC en_21 rfl (ref10_Tables_w p0 _ hx3 _)) ?_
 rintro _ w4 ⟨u4_r0_s, z4_r0_s, g4_r0_s, F4_r0_s, rfl, O4_r0_s, f4_r0_s, p4_r0_s, G4⟩
 have z13 := G4.size
 have fl14 := O4_r0_s.flt
 have lt15 := O4_r0_s.lth
 refine qm rfl<|qm rfl<|qm rfl<|qm rfl<|qm rfl<|sd_done<|sw_seq ?_
 refine dw [([])] [] (.leaf [(0,10),(1,10),(2,0),(3,10),(4,10),(5,10),(6,10),(7,10),(8,10),(9,10),(10,10),(12,10),(13,10),(11,0),(14,0),(15,10),(16,10),(17,10)]) ?_
 intro w5 G5 zw5
 refine sdz_leaf<|dm 0 rfl rfl<|dm 0 rfl rfl ?_
 have Y2 := Gr.trans G4 G5
 have B16 := (O3_r0_s.gr Y2)
 have B17 := (O4_r0_s.gr G5)
 obtain ⟨x4, hx4, hm⟩ := bnd hm
 refine qz [] rfl (eC en_22 rfl (ref10_SameTables_w x2.1 x3.1 _ _ _ _ _ _ _ _ _ _ _ hx4 _ (OwnD.rd B16) (OwnD.rd B17))) ⟨fun _ => tk0, trivial⟩ ?_
 rintro _ w6 ⟨rfl, G6⟩
 have z18 := G6.size
 refine kG G6 ?_
 have S19 := ((Kp.refl ([]) w5).gr G6)
 refine qqF 0 rfl rfl S19 (fun w hS => vv_move rfl) (fun c2 => ?_) (fun c2 => ?_)
 · replace hm := cnd_f c2 hm
   refine qx 0 rfl rfl S19<|qx 0 rfl rfl S19<|qx 0 rfl rfl S19<|dn 0 rfl rfl S19<|dn 0 rfl rfl S19<|qx 0 rfl rfl S19<|qx 0 rfl rfl S19 ?_
   refine qx 0 rfl rfl S19<|qx 0 rfl rfl S19<|qy rfl<|qy rfl<|qx 0 rfl rfl S19<|dn 0 rfl rfl S19<|dn 0 rfl rfl S19 ?_
   refine sd_done<|sw_ret ?_
   have Y3 := Gr.trans (Gr.trans (Gr.trans (Gr.trans G1 G2) G3) Y2) G6
   have X28 := ((Gr.refl w).trans Y3)
   cases hm
   refine ⟨_, _, rfl, res_1 rfl (rv_tmp rfl), ?_⟩
   exact ⟨rfl, X28⟩
 replace hm := cnd_t c2 hm
 refine dn 0 rfl rfl S19<|dn 0 rfl rfl S19<|qh 0 rfl rfl S19 (fun w hS => vv_eql (a := x2.2) (b := x3.2) rfl rfl)<|dn 0 rfl rfl S19<|qqF 0 rfl rfl S19 (fun w hS => vv_move rfl) (fun c3 => ?_) (fun c3 => ?_)
 · replace hm := iF c3 hm
   refine qx 0 rfl rfl S19<|qx 0 rfl rfl S19<|qx 0 rfl rfl S19<|qx 0 rfl rfl S19<|qy rfl<|qy rfl<|qx 0 rfl rfl S19 ?_
   refine dn 0 rfl rfl S19<|dn 0 rfl rfl S19<|sd_done<|sw_ret ?_
   have Y4 := Gr.trans (Gr.trans (Gr.trans (Gr.trans G1 G2) G3) Y2) G6
   have X27 := ((Gr.refl w).trans Y4)
   cases hm
   refine ⟨_, _, rfl, res_1 rfl (rv_tmp rfl), ?_⟩
   exact ⟨rfl, X27⟩
 replace hm := iT c3 hm
 have B20 := (B12.gr Y2)
 refine qh 0 rfl rfl S19 (fun w hS => vv_loadW agg_26 rfl (Bx.kp B20 hS) rfl)<|dn 0 rfl rfl S19<|qh 0 rfl rfl S19 (fun w hS => vv_loadW agg_26 rfl (Bx.kp B20 hS) rfl)<|dn 0 rfl rfl S19 ?_
 have Y5 := Gr.trans (Gr.trans (Gr.trans G2 G3) Y2) G6
 have B21 := (B5.gr Y5)
 obtain ⟨x5, hx5, hm⟩ := bnd hm
 refine qz [] rfl (eC en_23 rfl (plan_CheckTables_w p0 p1 _ _ _ _ _ _ hx5 _ B21)) ⟨fun _ => tk0, trivial⟩ ?_
 rintro _ w7 ⟨rfl, G7⟩
 have z22 := G7.size
 refine kG G7 ?_
 have B23 := (B21.gr G7)
 obtain ⟨x6, hx6, hm⟩ := bnd hm
 refine qz [] rfl (eC en_24 rfl (ref10_CheckTables_w p0 p1 _ _ _ _ _ _ hx6 _ B23)) ⟨fun _ => tk0, trivial⟩ ?_
 rintro _ w8 ⟨rfl, G8⟩
 have z24 := G8.size
 refine kG G8 ?_
 have S25 := ((S19.gr G7).gr G8)
 refine qh 0 rfl rfl S25 (fun w hS => vv_eql (a := x5) (b := x6) rfl rfl)<|dn 0 rfl rfl S25<|dn 0 rfl rfl S25<|sd_done<|sw_ret ?_
 have X26 := (((((Gr.refl w).trans G1).trans Y5).trans G7).trans G8)
 cases hm
 refine ⟨_, _, rfl, res_1 rfl (rv_tmp rfl), ?_⟩
 exact ⟨rfl, X26⟩
end Go.Proofs.Ytopkalcefepilaa.Mx
