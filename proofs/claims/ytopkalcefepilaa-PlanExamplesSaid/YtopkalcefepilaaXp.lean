/- Walks that follow mirrors: Xp. Printed by mx.py. -/
import Derived.Test.YtopkalcefepilaaGb
import Derived.Test.YtopkalcefepilaaZf
set_option linter.unusedVariables false
set_option linter.unusedSimpArgs false
set_option maxRecDepth 100000
set_option maxHeartbeats 30000000
namespace Go.Proofs.Ytopkalcefepilaa.Mx
open Go Go.RowKit Go.Sx
theorem bsl_73_2 : BSl Try.prog 73 2 32 1 [.slice none 0 0, .slice none 0 0] := bsl_mk Try.underlying73 (one_32).siz zv_32 rfl rfl (by kernel_rfl)
theorem en_22 : En Try.prog 22 := fun _ _ => by kernel_rfl
theorem bsl_39_2 : BSl Try.prog 39 2 73 1 [.slice none 0 0, .slice none 0 0] := bsl_mk Try.underlying39 (one_73).siz zv_73 rfl rfl (by kernel_rfl)
theorem en_23 : En Try.prog 23 := fun _ _ => by kernel_rfl
theorem en_33 : En Try.prog 33 := fun _ _ => by kernel_rfl
theorem en_36 : En Try.prog 36 := fun _ _ => by kernel_rfl
theorem ref10_SameTables_w (p0 : List (List (List Int))) (p1 : List (List (List Int))) (vp0 : Value) (zp0 gp0 op0 : Nat) (Fp0 : List Nat) (vp1 : Value) (zp1 gp1 op1 : Nat) (Fp1 : List Nat) (r : Bool) (hm : ref10_SameTables p0 p1 = some r) (w : World) (hp0 : RdD (rpSd (rpSl 1 ic)) w zp0 gp0 op0 vp0 Fp0 p0) (hp1 : RdD (rpSd (rpSl 1 ic)) w zp1 gp1 op1 vp1 Fp1 p1)  :
    Calls Try.prog 22 [vp0, vp1].toArray w fun e w' => ∃ v, e = .returned v ∧ (v = .bool r ∧ Gr w w') := by
 have fl1 := hp0.flt
 have lt2 := hp0.lth
 have fl3 := hp1.flt
 have lt4 := hp1.lth
 unfold ref10_SameTables at hm
 refine calls_of_sw 54 Try.func22 rfl rfl rfl<|qs 1 rfl<|qm rfl<|sd_done<|sw_seq<|sw_seq ?_
 refine qg 5 rfl<|qm rfl<|qv rfl (vv_lenD (l := p0) Try.underlying39 rfl hp0)<|qm rfl<|qv rfl (vv_lenD (l := p1) Try.underlying39 rfl hp1)<|qv rfl (vv_neq (a := (p0.length : Int)) (b := (p1.length : Int)) rfl rfl)<|sd_done ?_
 refine sw_cond rfl (fun c1 => ?_) (fun c1 => ?_)
 · replace hm := iT c1 hm
   refine qs 1 rfl<|qm rfl<|qb ?_
   cases hm
   refine ⟨_, _, rfl, res_1 rfl (rv_tmp rfl), ?_⟩
   exact ⟨rfl, (Gr.refl w)⟩
 replace hm := iF c1 hm
 refine qu<|sw_seq<|qs 1 rfl<|qm rfl<|sd_done ?_
 refine sw_block<|sw_loopD (α := Nat × Int) ([4, 5, 6] ++ rg 12 42) (fun ⟨n1, a2⟩ => [(4, .bool false), (5, .int .i64 a2)]) (fun ⟨n1, a2⟩ wr => (fixN (ref10_SameTables_L1 p0 p1) n1 a2 = some r) ∧ Kz [] w wr) (fun ⟨n1, a2⟩ => n1) ⟨FUEL, 0⟩ ?_ ?_ ?_
 · exact sbq
 · exact ⟨hm, Kz.refl _ _⟩
 clear hm; rintro ⟨n1, a2⟩ w1 ⟨hm, K1⟩
 have z5 := K1.size
 have hb := fix_succ hm; clear hm; obtain ⟨n1, rfl, hm⟩ := hb
 generalize hrec1 : fixN (ref10_SameTables_L1 p0 p1) n1 = rec1 at hm
 unfold ref10_SameTables_L1 at hm
 try dsimp only at hm
 refine sw_seq<|qs 4 rfl<|qm rfl<|qm rfl ?_
 have B6 := (hp0.kz K1 tk0 (fun x hx => tk0))
 refine qv rfl (vv_lenD (l := p0) Try.underlying39 rfl B6)<|qv rfl (vv_lss (a := a2) (b := (p0.length : Int)) rfl rfl)<|sd_done<|cnF rfl (fun c2 => ?_) (fun c2 => ?_)
 · replace hm := iF c2 hm
   refine sw_exit<|then_x<|then_x<|block_x<|then_n<|qs 1 rfl ?_
   refine qm rfl<|sd_done<|sw_ret ?_
   have X34 := ((Gr.refl w).kz K1)
   cases hm
   refine ⟨_, _, rfl, res_1 rfl (rv_tmp rfl), ?_⟩
   exact ⟨rfl, X34⟩
 replace hm := iT c2 hm
 refine qu<|sw_seq<|sw_block<|sw_seq<|sw_seq<|dw [([])] [] (.leaf [(0,10),(1,10),(2,10),(3,10),(4,10),(5,10),(6,10),(7,10),(8,10),(9,10),(10,10)]) ?_
 intro w2 G2 zw2
 refine sdz_leaf<|dm 0 rfl rfl<|dm 0 rfl rfl ?_
 obtain ⟨y3, hy3, hm⟩ := bnd hm
 have B7 := (B6.gr G2)
 refine dh 0 rfl rfl (fun w hS => vv_ixD (i := a2) Try.underlying39 (one_73).siz rfl (RdD.kp B7 hS (.inr List.not_mem_nil) (fun _ _ => List.not_mem_nil)) rfl hy3) ?_
 obtain ⟨lg8, x8_, z8_, g8_, o8_, R8, gx8, Q8, pf8⟩ := atSd B7 hy3
 have lt9 := Q8.lth
 refine dh 0 rfl rfl (fun w hS => vv_el1T (c := (fun p => [p.2])) (q := 0) (u := x8_) one_73 rfl (Rd.kp R8 hS (.inr List.not_mem_nil)) gx8 (by first | rfl | omega) rfl)<|dh 0 rfl rfl (fun w hS => vv_lenD (l := y3) Try.underlying73 rfl (RdD.kp Q8 hS (.inr List.not_mem_nil) (fun _ _ => List.not_mem_nil)))<|dm 0 rfl rfl<|dm 0 rfl rfl ?_
 obtain ⟨y4, hy4, hm⟩ := bnd hm
 have B10 := ((hp1.kz K1 tk0 (fun x hx => tk0)).gr G2)
 refine dh 0 rfl rfl (fun w hS => vv_ixD (i := a2) Try.underlying39 (one_73).siz rfl (RdD.kp B10 hS (.inr List.not_mem_nil) (fun _ _ => List.not_mem_nil)) rfl hy4) ?_
 obtain ⟨lg11, x11_, z11_, g11_, o11_, R11, gx11, Q11, pf11⟩ := atSd B10 hy4
 have lt12 := Q11.lth
 refine dh 0 rfl rfl (fun w hS => vv_el1T (c := (fun p => [p.2])) (q := 0) (u := x11_) one_73 rfl (Rd.kp R11 hS (.inr List.not_mem_nil)) gx11 (by first | rfl | omega) rfl)<|dh 0 rfl rfl (fun w hS => vv_lenD (l := y4) Try.underlying73 rfl (RdD.kp Q11 hS (.inr List.not_mem_nil) (fun _ _ => List.not_mem_nil)))<|dh 0 rfl rfl (fun w hS => vv_neq (a := (y3.length : Int)) (b := (y4.length : Int)) rfl rfl)<|sd_done<|sw_cond rfl (fun c3 => ?_) (fun c3 => ?_)
 · replace hm := iT c3 hm
   refine qs 1 rfl<|qm rfl<|qb<|block_r ?_
   refine then_r<|then_r<|block_r<|then_r ?_
   have X13 := (((Gr.refl w).kz K1).trans G2)
   cases hm
   refine ⟨_, _, rfl, res_1 rfl (rv_tmp rfl), ?_⟩
   exact ⟨rfl, X13⟩
 replace hm := iF c3 hm
 refine qu<|qs 1 rfl<|qm rfl<|sd_done<|sw_block ?_
 have X14 := (((Gr.refl w).kz K1).trans G2)
 refine sw_loopD (α := Nat × Int) ([4, 6] ++ rg 29 25) (fun ⟨n2, a6⟩ => [(4, .bool false), (6, .int .i64 a6)]) (fun ⟨n2, a6⟩ wr => (fixN (ref10_SameTables_L2 p0 p1 a2 rec1) n2 a6 = some r) ∧ Kz [] w2 wr) (fun ⟨n2, a6⟩ => n2) ⟨FUEL, 0⟩ ?_ ?_ ?_
 · exact sbq
 · exact ⟨hm, Kz.refl _ _⟩
 clear hm; rintro ⟨n2, a6⟩ w3 ⟨hm, K3⟩
 have z15 := K3.size
 have hb := fix_succ hm; clear hm; obtain ⟨n2, rfl, hm⟩ := hb
 generalize hrec2 : fixN (ref10_SameTables_L2 p0 p1 a2 rec1) n2 = rec2 at hm
 unfold ref10_SameTables_L2 at hm
 try dsimp only at hm
 refine sw_seq<|qs 7 rfl<|qm rfl<|qm rfl<|qm rfl ?_
 obtain ⟨y7, hy7, hm⟩ := bnd hm
 have B16 := (B7.kz K3 tk0 (fun x hx => tk0))
 refine qv rfl (vv_ixD (i := a2) Try.underlying39 (one_73).siz rfl B16 rfl hy7) ?_
 obtain ⟨lg17, x17_, z17_, g17_, o17_, R17, gx17, Q17, pf17⟩ := atSd B16 hy7
 have lt18 := Q17.lth
 refine qv rfl (vv_el1T (c := (fun p => [p.2])) (q := 0) (u := x17_) one_73 rfl R17 gx17 (by first | rfl | omega) rfl)<|qv rfl (vv_lenD (l := y7) Try.underlying73 rfl Q17)<|qv rfl (vv_lss (a := a6) (b := (y7.length : Int)) rfl rfl)<|sd_done<|cnF rfl (fun c4 => ?_) (fun c4 => ?_)
 · replace hm := iF c4 hm
   refine sw_exit<|then_x<|then_x<|block_x<|block_n<|then_n<|qg 3 rfl ?_
   refine qm rfl<|qv rfl (vv_add (k := .i64) (a := a2) (b := 1) rfl rfl)<|qm rfl<|sd_nil ?_
   have K_33 : Kz [] w w3 := ((K1.gr G2).kz K3)
   subst hrec1
   exact ⟨rfl, ⟨n1, w64 (a2 + 1)⟩, sbq, ⟨hm, K_33⟩, Nat.lt_succ_self _⟩
 replace hm := iT c4 hm
 refine qu<|sw_seq<|sw_block<|sw_seq<|dw [([])] [] (.leaf [(0,10),(1,10),(2,10),(3,10),(4,10),(5,10),(6,10),(7,10),(8,10),(9,10),(10,10),(11,10),(12,10),(13,10),(14,0),(15,10)]) ?_
 intro w4 G4 zw4
 refine sdz_leaf<|dm 0 rfl rfl<|dm 0 rfl rfl ?_
 obtain ⟨y8, hy8, hm⟩ := bnd hm
 have B19 := (B16.gr G4)
 refine dh 0 rfl rfl (fun w hS => vv_ixD (i := a2) Try.underlying39 (one_73).siz rfl (RdD.kp B19 hS (.inr List.not_mem_nil) (fun _ _ => List.not_mem_nil)) rfl hy8) ?_
 obtain ⟨lg20, x20_, z20_, g20_, o20_, R20, gx20, Q20, pf20⟩ := atSd B19 hy8
 have lt21 := Q20.lth
 refine dh 0 rfl rfl (fun w hS => vv_el1T (c := (fun p => [p.2])) (q := 0) (u := x20_) one_73 rfl (Rd.kp R20 hS (.inr List.not_mem_nil)) gx20 (by first | rfl | omega) rfl)<|dm 0 rfl rfl ?_
 obtain ⟨y9, hy9, hm⟩ := bnd hm
 refine dh 0 rfl rfl (fun w hS => vv_ixD (i := a6) Try.underlying73 (one_32).siz rfl (RdD.kp Q20 hS (.inr List.not_mem_nil) (fun _ _ => List.not_mem_nil)) rfl hy9) ?_
 obtain ⟨lg22, x22_, z22_, g22_, o22_, R22, gx22, Q22, pf22⟩ := atSl Q20 hy9
 have lt23 := Q22.lth
 refine dh 0 rfl rfl (fun w hS => vv_el1T (c := (fun p => [p.2])) (q := 0) (u := x22_) one_32 rfl (Rd.kp R22 hS (.inr List.not_mem_nil)) gx22 (by first | rfl | omega) rfl)<|dm 0 rfl rfl<|dm 0 rfl rfl ?_
 obtain ⟨y10, hy10, hm⟩ := bnd hm
 have B24 := ((B10.kz K3 tk0 (fun x hx => tk0)).gr G4)
 refine dh 0 rfl rfl (fun w hS => vv_ixD (i := a2) Try.underlying39 (one_73).siz rfl (RdD.kp B24 hS (.inr List.not_mem_nil) (fun _ _ => List.not_mem_nil)) rfl hy10) ?_
 obtain ⟨lg25, x25_, z25_, g25_, o25_, R25, gx25, Q25, pf25⟩ := atSd B24 hy10
 have lt26 := Q25.lth
 refine dh 0 rfl rfl (fun w hS => vv_el1T (c := (fun p => [p.2])) (q := 0) (u := x25_) one_73 rfl (Rd.kp R25 hS (.inr List.not_mem_nil)) gx25 (by first | rfl | omega) rfl)<|dm 0 rfl rfl ?_
 obtain ⟨y11, hy11, hm⟩ := bnd hm
 refine dh 0 rfl rfl (fun w hS => vv_ixD (i := a6) Try.underlying73 (one_32).siz rfl (RdD.kp Q25 hS (.inr List.not_mem_nil) (fun _ _ => List.not_mem_nil)) rfl hy11) ?_
 obtain ⟨lg27, x27_, z27_, g27_, o27_, R27, gx27, Q27, pf27⟩ := atSl Q25 hy11
 have lt28 := Q27.lth
 refine dh 0 rfl rfl (fun w hS => vv_el1T (c := (fun p => [p.2])) (q := 0) (u := x27_) one_32 rfl (Rd.kp R27 hS (.inr List.not_mem_nil)) gx27 (by first | rfl | omega) rfl) ?_
 obtain ⟨x12, hx12, hm⟩ := bnd hm
 refine qz [] rfl (eC en_18 rfl (ref03_SameInts_w hx12 Q22 Q27)) ⟨fun _ => tk0, trivial⟩ ?_
 rintro _ w5 ⟨rfl, G5⟩
 have z29 := G5.size
 refine kG G5 ?_
 have S30 := ((Kp.refl ([]) w4).gr G5)
 refine qh 0 rfl rfl S30 (fun w hS => vv_not rfl)<|sd_done<|sw_cond rfl (fun c5 => ?_) (fun c5 => ?_)
 · replace hm := cnd_t c5 hm
   refine qs 1 rfl<|qm rfl<|sd_done<|sw_ret<|block_r<|then_r ?_
   refine then_r<|block_r<|block_r<|then_r<|then_r<|block_r<|then_r ?_
   have X31 := (((X14.kz K3).trans G4).trans G5)
   cases hm
   refine ⟨_, _, rfl, res_1 rfl (rv_tmp rfl), ?_⟩
   exact ⟨rfl, X31⟩
 replace hm := cnd_f c5 hm
 refine sw_skip<|block_n<|then_n<|qg 3 rfl<|qm rfl<|qv rfl (vv_add (k := .i64) (a := a6) (b := 1) rfl rfl)<|qm rfl ?_
 refine sd_nil ?_
 have K_32 : Kz [] w2 w5 := ((K3.gr G4).gr G5)
 subst hrec2
 exact ⟨rfl, ⟨n2, w64 (a6 + 1)⟩, sbq, ⟨hm, K_32⟩, Nat.lt_succ_self _⟩
theorem law10_PlanExamples_w {r} (hm : law10_PlanExamples = some r) {w : World} :
    Calls Try.prog 13 [].toArray w fun e w' => ∃ v, e = .returned v ∧ (v = .bool r ∧ Gr w w') := by
 unfold law10_PlanExamples at hm
 refine calls_of_sw 181 Try.func13 rfl rfl rfl<|qs 1 rfl<|qm rfl<|qd 7 rfl ?_
 obtain ⟨x1, hx1, hm⟩ := bnd hm
 refine qe rfl (eC en_34 rfl (law10_tree_w hx1)) ?_
 rintro _ w1 ⟨rfl, G1⟩
 have z1 := G1.size
 obtain ⟨x2, hx2, hm⟩ := bnd hm
 refine qe rfl (eC en_20 rfl (plan_Tables_w x1 _ hx2 _)) ?_
 rintro _ w2 ⟨u2_r0_s, z2_r0_s, g2_r0_s, F2_r0_s, rfl, O2_r0_s, f2_r0_s, p2_r0_s, G2⟩
 have z2 := G2.size
 have fl3 := O2_r0_s.flt
 have lt4 := O2_r0_s.lth
 refine qm rfl<|qm rfl<|qm rfl<|qm rfl<|qm rfl<|sd_done<|sw_seq ?_
 refine qg 7 rfl ?_
 obtain ⟨x3, hx3, hm⟩ := bnd hm
 refine qe rfl (eC en_34 rfl (law10_tree_w hx3)) ?_
 rintro _ w3 ⟨rfl, G3⟩
 have z5 := G3.size
 obtain ⟨x4, hx4, hm⟩ := bnd hm
 refine qe rfl (eC en_20 rfl (plan_Tables_w x3 _ hx4 _)) ?_
 rintro _ w4 ⟨u4_r0_s, z4_r0_s, g4_r0_s, F4_r0_s, rfl, O4_r0_s, f4_r0_s, p4_r0_s, G4⟩
 have z6 := G4.size
 have fl7 := O4_r0_s.flt
 have lt8 := O4_r0_s.lth
 refine qm rfl<|qm rfl<|qm rfl<|qm rfl<|qm rfl<|sd_done<|sw_seq ?_
 refine qg 7 rfl ?_
 obtain ⟨x5, hx5, hm⟩ := bnd hm
 refine qe rfl (eC en_34 rfl (law10_tree_w hx5)) ?_
 rintro _ w5 ⟨rfl, G5⟩
 have z9 := G5.size
 obtain ⟨x6, hx6, hm⟩ := bnd hm
 refine qe rfl (eC en_14 rfl (plan_Worst_w hx6)) ?_
 rintro _ w6 ⟨rfl, G6⟩
 have z10 := G6.size
 refine qm rfl<|qm rfl<|qm rfl<|qm rfl<|qm rfl<|sd_done<|sw_seq ?_
 refine qg 8 rfl ?_
 obtain ⟨x7, hx7, hm⟩ := bnd hm
 refine qe rfl (eC en_37 rfl (law10_small_w hx7)) ?_
 rintro _ w7 ⟨rfl, G7⟩
 have z11 := G7.size
 obtain ⟨x8, hx8, hm⟩ := bnd hm
 refine qe rfl (eC en_25 rfl (plan_Choose_w hx8)) ?_
 rintro _ w8 ⟨u8_r0_7, z8_r0_7, g8_r0_7, rfl, O8_r0_7, f8_r0_7, G8⟩
 have z12 := G8.size
 have lt13 := O8_r0_7.lth
 refine qm rfl<|qm rfl<|qm rfl<|qe rfl (ev_alloc (cs := TChoice.cs (TChoice.mk 0#8 false 0 0 0 0 0 []) (.slice none 0 0)) zv_52 rfl) ?_
 rintro _ w9 ⟨b9, rfl, hbw9, Bw9, G9⟩
 have z14 := G9.size
 have lt15 := Bw9.lt
 have B16 := (O8_r0_7.gr G9)
 refine qe rfl (ev_stW agg_52 rfl rfl (TChoice.cs_ones _ _ (Own.oneB B16)) Bw9 rfl rfl) ?_
 rintro _ w10 ⟨Bw10, M10⟩
 have z17 := M10.size
 refine qm rfl<|qd 3 rfl ?_
 obtain ⟨x9, hx9, hm⟩ := bnd hm
 refine qe rfl (eC en_37 rfl (law10_small_w hx9)) ?_
 rintro _ w11 ⟨rfl, G11⟩
 have z18 := G11.size
 refine qe rfl (ev_alloc (cs := TNeed.cs (TNeed.mk 0 0 0 0 0 0 (TGroup.mk 0#64 0#64 0#64))) zv_50 rfl) ?_
 rintro _ w12 ⟨b12, rfl, hbw12, Bw12, G12⟩
 have z19 := G12.size
 have lt20 := Bw12.lt
 refine qe rfl (ev_stW agg_50 rfl rfl rfl Bw12 rfl rfl) ?_
 rintro _ w13 ⟨Bw13, M13⟩
 have z21 := M13.size
 refine qd 2 rfl<|qv rfl (vv_fieldAddr fa_50_1 rfl)<|qe rfl (ev_st1 (cs' := TNeed.cs (TNeed.mk x9.Depth 5 x9.Storage x9.Headers x9.HeaderPrice x9.StoragePrice x9.Group)) (one_3).siz rfl rfl rfl Bw13 rfl rfl) ?_
 rintro _ w14 ⟨Bw14, M14⟩
 have z22 := M14.size
 refine qd 7 rfl ?_
 obtain ⟨x10, hx10, hm⟩ := bnd hm
 refine qe rfl (eC en_34 rfl (law10_tree_w hx10)) ?_
 rintro _ w15 ⟨rfl, G15⟩
 have z23 := G15.size
 obtain ⟨x11, hx11, hm⟩ := bnd hm
 refine qe rfl (eC en_14 rfl (plan_Worst_w hx11)) ?_
 rintro _ w16 ⟨rfl, G16⟩
 have z24 := G16.size
 refine qm rfl<|qm rfl<|qm rfl<|qm rfl<|qm rfl<|sd_done<|sw_seq ?_
 refine qg 7 rfl ?_
 obtain ⟨x12, hx12, hm⟩ := bnd hm
 refine qe rfl (eC en_34 rfl (law10_tree_w hx12)) ?_
 rintro _ w17 ⟨rfl, G17⟩
 have z25 := G17.size
 obtain ⟨x13, hx13, hm⟩ := bnd hm
 refine qe rfl (eC en_14 rfl (plan_Worst_w hx13)) ?_
 rintro _ w18 ⟨rfl, G18⟩
 have z26 := G18.size
 refine qm rfl<|qm rfl<|qm rfl<|qm rfl<|qm rfl<|sd_done<|sw_seq ?_
 refine qg 7 rfl ?_
 obtain ⟨x14, hx14, hm⟩ := bnd hm
 refine qe rfl (eC en_34 rfl (law10_tree_w hx14)) ?_
 rintro _ w19 ⟨rfl, G19⟩
 have z27 := G19.size
 obtain ⟨x15, hx15, hm⟩ := bnd hm
 refine qe rfl (eC en_14 rfl (plan_Worst_w hx15)) ?_
 rintro _ w20 ⟨rfl, G20⟩
 have z28 := G20.size
 refine qm rfl<|qm rfl<|qm rfl<|qm rfl<|qm rfl<|sd_done ?_
 have Y1 := Gr.trans G11 G12
 have Y2 := Gr.trans (Gr.trans (Gr.trans (Gr.trans (Gr.trans G15 G16) G17) G18) G19) G20
 have X29 := (((((((((((((((Gr.refl w).trans G1).trans G2).trans G3).trans G4).trans G5).trans G6).trans G7).trans G8).trans G9).md M10).trans Y1).md M13).md M14).trans Y2)
 refine qj (β := Bool) ([16] ++ rg 59 17) (fun a16 => [(16, .bool a16)]) (fun a16 wr => (law10_PlanExamples_J1 x2 x4 x6 x8 x9 x11 x13 x15 a16 = some r) ∧ Kz [] w20 wr) ?_ ?_
 · refine qg 18 rfl<|qm rfl<|qe rfl (ev_litT [1, 0] ic bsl_32_2 rfl rfl (ws_of rfl) rfl rfl rfl) ?_
   rintro vw48 w48 ⟨gw48, hbw48, Ow48, G48⟩
   have z106 := G48.size
   have lt107 := Ow48.lth
   refine qe rfl (ev_litT [1, 1, 0] ic bsl_32_3 rfl rfl (ws_of rfl) rfl rfl rfl) ?_
   rintro vw49 w49 ⟨gw49, hbw49, Ow49, G49⟩
   have z108 := G49.size
   have lt109 := Ow49.lth
   have B110 := (Ow48.gr G49)
   refine qe rfl (ev_litD (R := (rpSl 1 ic)) (F := ((zf 1 gw48) ++ (zf 1 gw49))) [([1, 0], vw48), ([1, 1, 0], vw49)] bsl_73_2 rfl (fill_1 rfl (Own.oneB B110) rfl (fill_1 rfl (Own.oneB Ow49) rfl rfl)) rfl rfl rfl (by simp only [List.mem_cons, List.not_mem_nil, or_false]; rintro p (rfl | rfl) <;> first | exact ⟨_, _, _, (Own.rd B110), (in_l (in_zf _ _))⟩ | exact ⟨_, _, _, (Own.rd Ow49), (in_r (in_zf _ _))⟩) (fA_app (A := fun b => b < _) (zf_lt B110.lth.o) (zf_lt Ow49.lth.o))) ?_
   rintro vw50 w50 ⟨gw50, hbw50, Ow50, G50⟩
   have z111 := G50.size
   have fl112 := Ow50.flt
   have lt113 := Ow50.lth
   refine qe rfl (ev_litD (R := (rpSd (rpSl 1 ic))) (F := ((zf 1 gw50) ++ ((zf 1 gw48) ++ (zf 1 gw49)))) [([[1, 0], [1, 1, 0]], vw50)] bsl_39_1 rfl (fill_1 rfl (OwnD.oneB Ow50) rfl rfl) rfl rfl rfl (by simp only [List.mem_cons, List.not_mem_nil, or_false]; rintro p rfl; exact (rpSd_mk (OwnD.rd Ow50) (in_l (in_zf _ _)) (fun b hb => List.mem_append_right _ (hb)))) (fA_app (A := fun b => b < _) (zf_lt Ow50.lth.o) Ow50.flt)) ?_
   rintro vw51 w51 ⟨gw51, hbw51, Ow51, G51⟩
   have z114 := G51.size
   have fl115 := Ow51.flt
   have lt116 := Ow51.lth
   have Y3 := Gr.trans (Gr.trans (Gr.trans (Gr.trans (Gr.trans (Gr.trans G3 G4) G5) G6) G7) G8) G9
   have Y4 := Gr.trans (Gr.trans (Gr.trans (Gr.trans Y2 G48) G49) G50) G51
   have B117 := ((((((O2_r0_s.gr Y3).md M10 (tk1 (pb_lt (b := b9) lt4)) (fun x hx => .inr (by have := fl3 x hx; omega))).gr Y1).md M13 (tk1 (pb_lt (b := b12) lt4)) (fun x hx => .inr (by have := fl3 x hx; omega))).md M14 (tk1 (pb_lt (b := b12) lt4)) (fun x hx => .inr (by have := fl3 x hx; omega))).gr Y4)
   obtain ⟨x36, hx36, hm⟩ := bnd hm
   refine qe rfl (eC en_22 rfl (ref10_SameTables_w x2.1 [[[1, 0], [1, 1, 0]]] _ _ _ _ _ _ _ _ _ _ _ hx36 _ (OwnD.rd B117) (OwnD.rd Ow51))) ?_
   rintro _ w52 ⟨rfl, G52⟩
   have z118 := G52.size
   refine qpF rfl (vv_move rfl) (fun c19 => ?_) (fun c19 => ?_)
   · replace hm := cnd_f c19 hm
     refine qk rfl<|qk rfl<|qk rfl<|qk rfl<|qk rfl<|qk rfl<|qk rfl ?_
     refine qk rfl<|qk rfl<|qm rfl<|qm rfl<|sd_nil ?_
     have Y5 := Gr.trans (Gr.trans (Gr.trans (Gr.trans G48 G49) G50) G51) G52
     exact ⟨rfl, false, sbq, hm, (kz0.gr Y5)⟩
   replace hm := cnd_t c19 hm
   refine qm rfl<|qe rfl (ev_litT [0, 0] ic bsl_32_2 rfl rfl (ws_of rfl) rfl rfl rfl) ?_
   rintro vw53 w53 ⟨gw53, hbw53, Ow53, G53⟩
   have z119 := G53.size
   have lt120 := Ow53.lth
   refine qe rfl (ev_litT [0, 1, 0] ic bsl_32_3 rfl rfl (ws_of rfl) rfl rfl rfl) ?_
   rintro vw54 w54 ⟨gw54, hbw54, Ow54, G54⟩
   have z121 := G54.size
   have lt122 := Ow54.lth
   have B123 := (Ow53.gr G54)
   refine qe rfl (ev_litD (R := (rpSl 1 ic)) (F := ((zf 1 gw53) ++ (zf 1 gw54))) [([0, 0], vw53), ([0, 1, 0], vw54)] bsl_73_2 rfl (fill_1 rfl (Own.oneB B123) rfl (fill_1 rfl (Own.oneB Ow54) rfl rfl)) rfl rfl rfl (by simp only [List.mem_cons, List.not_mem_nil, or_false]; rintro p (rfl | rfl) <;> first | exact ⟨_, _, _, (Own.rd B123), (in_l (in_zf _ _))⟩ | exact ⟨_, _, _, (Own.rd Ow54), (in_r (in_zf _ _))⟩) (fA_app (A := fun b => b < _) (zf_lt B123.lth.o) (zf_lt Ow54.lth.o))) ?_
   rintro vw55 w55 ⟨gw55, hbw55, Ow55, G55⟩
   have z124 := G55.size
   have fl125 := Ow55.flt
   have lt126 := Ow55.lth
   refine qe rfl (ev_litT [0, 1] ic bsl_32_2 rfl rfl (ws_of rfl) rfl rfl rfl) ?_
   rintro vw56 w56 ⟨gw56, hbw56, Ow56, G56⟩
   have z127 := G56.size
   have lt128 := Ow56.lth
   refine qe rfl (ev_litT [0, 1, 1] ic bsl_32_3 rfl rfl (ws_of rfl) rfl rfl rfl) ?_
   rintro vw57 w57 ⟨gw57, hbw57, Ow57, G57⟩
   have z129 := G57.size
   have lt130 := Ow57.lth
   have B131 := (Ow56.gr G57)
   refine qe rfl (ev_litD (R := (rpSl 1 ic)) (F := ((zf 1 gw56) ++ (zf 1 gw57))) [([0, 1], vw56), ([0, 1, 1], vw57)] bsl_73_2 rfl (fill_1 rfl (Own.oneB B131) rfl (fill_1 rfl (Own.oneB Ow57) rfl rfl)) rfl rfl rfl (by simp only [List.mem_cons, List.not_mem_nil, or_false]; rintro p (rfl | rfl) <;> first | exact ⟨_, _, _, (Own.rd B131), (in_l (in_zf _ _))⟩ | exact ⟨_, _, _, (Own.rd Ow57), (in_r (in_zf _ _))⟩) (fA_app (A := fun b => b < _) (zf_lt B131.lth.o) (zf_lt Ow57.lth.o))) ?_
   rintro vw58 w58 ⟨gw58, hbw58, Ow58, G58⟩
   have z132 := G58.size
   have fl133 := Ow58.flt
   have lt134 := Ow58.lth
   have Y6 := Gr.trans (Gr.trans G56 G57) G58
   have B135 := (Ow55.gr Y6)
   refine qe rfl (ev_litD (R := (rpSd (rpSl 1 ic))) (F := ((zf 1 gw55) ++ (((zf 1 gw53) ++ (zf 1 gw54)) ++ ((zf 1 gw58) ++ ((zf 1 gw56) ++ (zf 1 gw57)))))) [([[0, 0], [0, 1, 0]], vw55), ([[0, 1], [0, 1, 1]], vw58)] bsl_39_2 rfl (fill_1 rfl (OwnD.oneB B135) rfl (fill_1 rfl (OwnD.oneB Ow58) rfl rfl)) rfl rfl rfl (by simp only [List.mem_cons, List.not_mem_nil, or_false]; rintro p (rfl | rfl) <;> first | exact (rpSd_mk (OwnD.rd B135) (in_l (in_zf _ _)) (fun b hb => List.mem_append_right _ (List.mem_append_left _ hb))) | exact (rpSd_mk (OwnD.rd Ow58) (in_r (in_r (in_l (in_zf _ _)))) (fun b hb => List.mem_append_right _ (List.mem_append_right _ (List.mem_append_right _ (hb)))))) (fA_app (A := fun b => b < _) (zf_lt B135.lth.o) (fA_app (A := fun b => b < _) B135.flt (fA_app (A := fun b => b < _) (zf_lt Ow58.lth.o) Ow58.flt)))) ?_
   rintro vw59 w59 ⟨gw59, hbw59, Ow59, G59⟩
   have z136 := G59.size
   have fl137 := Ow59.flt
   have lt138 := Ow59.lth
   have Y7 := Gr.trans (Gr.trans (Gr.trans (Gr.trans G5 G6) G7) G8) G9
   have B139 := ((((((((((((O4_r0_s.gr Y7).md M10 (tk1 (pb_lt (b := b9) lt8)) (fun x hx => .inr (by have := fl7 x hx; omega))).gr Y1).md M13 (tk1 (pb_lt (b := b12) lt8)) (fun x hx => .inr (by have := fl7 x hx; omega))).md M14 (tk1 (pb_lt (b := b12) lt8)) (fun x hx => .inr (by have := fl7 x hx; omega))).gr Y4).gr G52).gr G53).gr G54).gr G55).gr Y6).gr G59)
   obtain ⟨x37, hx37, hm⟩ := bnd hm
   refine qe rfl (eC en_22 rfl (ref10_SameTables_w x4.1 [[[0, 0], [0, 1, 0]], [[0, 1], [0, 1, 1]]] _ _ _ _ _ _ _ _ _ _ _ hx37 _ (OwnD.rd B139) (OwnD.rd Ow59))) ?_
   rintro _ w60 ⟨rfl, G60⟩
   have z140 := G60.size
   refine qm rfl<|qm rfl<|sd_nil ?_
   exact ⟨rfl, x37, sbq, hm, (((((((((((kz0.gr G48).gr G49).gr G50).gr G51).gr G52).gr G53).gr G54).gr G55).gr Y6).gr G59).gr G60)⟩
 clear hm; rintro a16 w21 ⟨hm, K21⟩
 have z30 := K21.size
 unfold law10_PlanExamples_J1 at hm
 have X31 := (X29.kz K21)
 refine qj (β := Bool) ([17] ++ rg 76 31) (fun a17 => [(17, .bool a17)]) (fun a17 wr => (law10_PlanExamples_J2 x11 x13 x15 a16 a17 = some r) ∧ Kz [] w21 wr) ?_ ?_
 · refine qg 32 rfl<|qm rfl<|qv rfl (vv_eql (a := x2.2) (b := 0) rfl rfl)<|qpF rfl (vv_move rfl) (fun c13 => ?_) (fun c13 => ?_)
   · replace hm := iF c13 hm
     refine qk rfl<|qk rfl<|qm rfl<|qm rfl<|qk rfl<|qk rfl<|qm rfl ?_
     refine qm rfl<|qk rfl<|qk rfl<|qm rfl<|qm rfl<|qk rfl<|qk rfl ?_
     refine qk rfl<|qm rfl<|qm rfl<|qk rfl<|qk rfl<|qk rfl<|qk rfl ?_
     refine qm rfl<|qm rfl<|qk rfl<|qk rfl<|qk rfl<|qk rfl<|qm rfl ?_
     refine qm rfl<|sd_nil ?_
     exact ⟨rfl, false, sbq, hm, kz0⟩
   replace hm := iT c13 hm
   refine qm rfl<|qv rfl (vv_eql (a := x4.2) (b := 0) rfl rfl)<|qm rfl<|qpF rfl (vv_move rfl) (fun c14 => ?_) (fun c14 => ?_)
   · replace hm := iF c14 hm
     refine qk rfl<|qk rfl<|qm rfl<|qm rfl<|qk rfl<|qk rfl<|qm rfl ?_
     refine qm rfl<|qk rfl<|qk rfl<|qk rfl<|qm rfl<|qm rfl<|qk rfl ?_
     refine qk rfl<|qk rfl<|qk rfl<|qm rfl<|qm rfl<|qk rfl<|qk rfl ?_
     refine qk rfl<|qk rfl<|qm rfl<|qm rfl<|sd_nil ?_
     exact ⟨rfl, false, sbq, hm, kz0⟩
   replace hm := iT c14 hm
   refine qm rfl<|qv rfl (vv_eql (a := x6.2) (b := 2) rfl rfl)<|qm rfl<|qpF rfl (vv_move rfl) (fun c15 => ?_) (fun c15 => ?_)
   · replace hm := iF c15 hm
     refine qk rfl<|qk rfl<|qm rfl<|qm rfl<|qk rfl<|qk rfl<|qk rfl ?_
     refine qm rfl<|qm rfl<|qk rfl<|qk rfl<|qk rfl<|qk rfl<|qm rfl ?_
     refine qm rfl<|qk rfl<|qk rfl<|qk rfl<|qk rfl<|qm rfl<|qm rfl ?_
     refine sd_nil ?_
     exact ⟨rfl, false, sbq, hm, kz0⟩
   replace hm := iT c15 hm
   refine qm rfl<|qv rfl (vv_eql (a := x8.2) (b := 2) rfl rfl)<|qm rfl<|qpF rfl (vv_move rfl) (fun c16 => ?_) (fun c16 => ?_)
   · replace hm := iF c16 hm
     refine qk rfl<|qk rfl<|qk rfl<|qm rfl<|qm rfl<|qk rfl<|qk rfl ?_
     refine qk rfl<|qk rfl<|qm rfl<|qm rfl<|qk rfl<|qk rfl<|qk rfl ?_
     refine qk rfl<|qm rfl<|qm rfl<|sd_nil ?_
     exact ⟨rfl, false, sbq, hm, kz0⟩
   replace hm := iT c16 hm
   have B91 := ((Bw14.gr Y2).kz K21)
   refine qv rfl (vv_loadW agg_50 rfl B91 rfl) ?_
   obtain ⟨x31, hx31, hm⟩ := bnd hm
   refine qe rfl (eC en_29 rfl (plan_CheckNeed_w hx31)) ?_
   rintro _ w43 ⟨rfl, G43⟩
   have z92 := G43.size
   refine qv rfl (vv_eql (a := x31) (b := 2) rfl rfl)<|qm rfl<|qpF rfl (vv_move rfl) (fun c17 => ?_) (fun c17 => ?_)
   · replace hm := iF c17 hm
     refine qk rfl<|qk rfl<|qk rfl<|qk rfl<|qm rfl<|qm rfl<|qk rfl ?_
     refine qk rfl<|qk rfl<|qk rfl<|qm rfl<|qm rfl<|sd_nil ?_
     exact ⟨rfl, false, sbq, hm, (kz0.gr G43)⟩
   replace hm := iT c17 hm
   obtain ⟨x32, hx32, hm⟩ := bnd hm
   refine qe rfl (eC en_34 rfl (law10_tree_w hx32)) ?_
   rintro _ w44 ⟨rfl, G44⟩
   have z93 := G44.size
   refine qm rfl ?_
   have Y8 := Gr.trans (Gr.trans (Gr.trans (Gr.trans G5 G6) G7) G8) G9
   have B94 := (((((((((O4_r0_s.gr Y8).md M10 (tk1 (pb_lt (b := b9) lt8)) (fun x hx => .inr (by have := fl7 x hx; omega))).gr Y1).md M13 (tk1 (pb_lt (b := b12) lt8)) (fun x hx => .inr (by have := fl7 x hx; omega))).md M14 (tk1 (pb_lt (b := b12) lt8)) (fun x hx => .inr (by have := fl7 x hx; omega))).gr Y2).kz K21 tk0 (fun x hx => tk0)).gr G43).gr G44)
   obtain ⟨x33, hx33, hm⟩ := bnd hm
   refine qe rfl (eC en_23 rfl (plan_CheckTables_w x32 x4.1 _ _ _ _ _ _ hx33 _ (OwnD.rd B94))) ?_
   rintro _ w45 ⟨rfl, G45⟩
   have z95 := G45.size
   refine qv rfl (vv_eql (a := x33) (b := 100) rfl rfl)<|qm rfl<|qpF rfl (vv_move rfl) (fun c18 => ?_) (fun c18 => ?_)
   · replace hm := iF c18 hm
     refine qk rfl<|qk rfl<|qk rfl<|qk rfl<|qm rfl<|qm rfl<|sd_nil ?_
     exact ⟨rfl, false, sbq, hm, (((kz0.gr G43).gr G44).gr G45)⟩
   replace hm := iT c18 hm
   obtain ⟨x34, hx34, hm⟩ := bnd hm
   refine qe rfl (eC en_34 rfl (law10_tree_w hx34)) ?_
   rintro _ w46 ⟨rfl, G46⟩
   have z96 := G46.size
   refine qm rfl ?_
   have B97 := ((B94.gr G45).gr G46)
   obtain ⟨x35, hx35, hm⟩ := bnd hm
   refine qe rfl (eC en_23 rfl (plan_CheckTables_w x34 x4.1 _ _ _ _ _ _ hx35 _ (OwnD.rd B97))) ?_
   rintro _ w47 ⟨rfl, G47⟩
   have z98 := G47.size
   refine qv rfl (vv_eql (a := x35) (b := 0) rfl rfl)<|qm rfl<|qm rfl<|sd_nil ?_
   exact ⟨rfl, (decide (x35 = 0)), sbq, hm, (((((kz0.gr G43).gr G44).gr G45).gr G46).gr G47)⟩
 clear hm; rintro a17 w22 ⟨hm, K22⟩
 have z32 := K22.size
 unfold law10_PlanExamples_J2 at hm
 have X33 := (X31.kz K22)
 refine qj (β := Bool) ([18] ++ rg 107 22) (fun a18 => [(18, .bool a18)]) (fun a18 wr => (law10_PlanExamples_J3 a16 a17 a18 = some r) ∧ Kz [] w22 wr) ?_ ?_
 · refine qg 23 rfl<|qm rfl<|qv rfl (vv_eql (a := x11.2) (b := 0) rfl rfl)<|qpF rfl (vv_move rfl) (fun c8 => ?_) (fun c8 => ?_)
   · replace hm := iF c8 hm
     refine qk rfl<|qk rfl<|qm rfl<|qm rfl<|qk rfl<|qk rfl<|qm rfl ?_
     refine qm rfl<|qk rfl<|qk rfl<|qm rfl<|qm rfl<|qk rfl<|qk rfl ?_
     refine qm rfl<|qm rfl<|qk rfl<|qk rfl<|qm rfl<|qm rfl<|sd_nil ?_
     exact ⟨rfl, false, sbq, hm, kz0⟩
   replace hm := iT c8 hm
   refine qm rfl<|qv rfl (vv_eql (a := x11.1) (b := 5) rfl rfl)<|qm rfl<|qpF rfl (vv_move rfl) (fun c9 => ?_) (fun c9 => ?_)
   · replace hm := iF c9 hm
     refine qk rfl<|qk rfl<|qm rfl<|qm rfl<|qk rfl<|qk rfl<|qm rfl ?_
     refine qm rfl<|qk rfl<|qk rfl<|qm rfl<|qm rfl<|qk rfl<|qk rfl ?_
     refine qm rfl<|qm rfl<|sd_nil ?_
     exact ⟨rfl, false, sbq, hm, kz0⟩
   replace hm := iT c9 hm
   refine qm rfl<|qv rfl (vv_eql (a := x13.2) (b := 0) rfl rfl)<|qm rfl<|qpF rfl (vv_move rfl) (fun c10 => ?_) (fun c10 => ?_)
   · replace hm := iF c10 hm
     refine qk rfl<|qk rfl<|qm rfl<|qm rfl<|qk rfl<|qk rfl<|qm rfl ?_
     refine qm rfl<|qk rfl<|qk rfl<|qm rfl<|qm rfl<|sd_nil ?_
     exact ⟨rfl, false, sbq, hm, kz0⟩
   replace hm := iT c10 hm
   refine qm rfl<|qv rfl (vv_eql (a := x13.1) (b := 3) rfl rfl)<|qm rfl<|qpF rfl (vv_move rfl) (fun c11 => ?_) (fun c11 => ?_)
   · replace hm := iF c11 hm
     refine qk rfl<|qk rfl<|qm rfl<|qm rfl<|qk rfl<|qk rfl<|qm rfl ?_
     refine qm rfl<|sd_nil ?_
     exact ⟨rfl, false, sbq, hm, kz0⟩
   replace hm := iT c11 hm
   refine qm rfl<|qv rfl (vv_eql (a := x15.2) (b := 0) rfl rfl)<|qm rfl<|qp rfl (vv_move rfl) (fun c12 => ?_) (fun c12 => ?_)
   · replace hm := iT c12 hm
     refine qm rfl<|qv rfl (vv_eql (a := x15.1) (b := 10) rfl rfl)<|qm rfl<|qm rfl<|sd_nil ?_
     exact ⟨rfl, (decide (x15.1 = 10)), sbq, hm, kz0⟩
   replace hm := iF c12 hm
   refine qk rfl<|qk rfl<|qm rfl<|qm rfl<|sd_nil ?_
   exact ⟨rfl, false, sbq, hm, kz0⟩
 clear hm; rintro a18 w23 ⟨hm, K23⟩
 have z34 := K23.size
 unfold law10_PlanExamples_J3 at hm
 refine qs 8 rfl ?_
 obtain ⟨x19, hx19, hm⟩ := bnd hm
 refine qe rfl (eC en_37 rfl (law10_small_w hx19)) ?_
 rintro _ w24 ⟨rfl, G24⟩
 have z35 := G24.size
 obtain ⟨x20, hx20, hm⟩ := bnd hm
 refine qe rfl (eC en_27 rfl (plan_Make_w hx20)) ?_
 rintro _ w25 ⟨u25_r0_0, z25_r0_0, g25_r0_0, F25_r0_0, rfl, O25_r0_0, f25_r0_0, p25_r0_0, G25⟩
 have z36 := G25.size
 have fl37 := O25_r0_0.flt
 have lt38 := O25_r0_0.lth
 refine qm rfl<|qm rfl<|qm rfl<|qe rfl (ev_alloc (cs := TPlan.cs (TPlan.mk [] 0#8) (.slice none 0 0)) zv_59 rfl) ?_
 rintro _ w26 ⟨b26, rfl, hbw26, Bw26, G26⟩
 have z39 := G26.size
 have lt40 := Bw26.lt
 have B41 := (O25_r0_0.gr G26)
 refine qe rfl (ev_stW agg_59 rfl rfl (TPlan.cs_ones _ _ (OwnD.oneB B41)) Bw26 rfl rfl) ?_
 rintro _ w27 ⟨Bw27, M27⟩
 have z42 := M27.size
 refine qm rfl<|sd_done<|sw_seq ?_
 have X43 := (((((X33.kz K23).trans G24).trans G25).trans G26).md M27)
 refine qj (β := Bool) (rg 134 26) (fun a21 => [(159, .bool a21)]) (fun a21 wr => (law10_PlanExamples_J4 x20 a21 = some r) ∧ Kz [] w27 wr) ?_ ?_
 · refine dw [([])] [] (.leaf [(0,10),(1,0),(2,10),(3,10),(4,10),(5,10),(6,10),(7,10),(8,10),(9,10),(10,10),(11,10),(12,10),(13,10),(14,10),(15,10),(16,10),(17,10),(18,10),(19,10),(20,10),(22,10),(21,0),(23,0),(24,10),(25,10)]) ?_
   intro w39 G39 zw39
   refine sdz_leaf<|dm 0 rfl rfl ?_
   obtain ⟨x28, hx28, hm⟩ := bnd hm
   refine qz [] rfl (eC en_33 rfl (law10_alive_w hx28)) ⟨fun _ => tk0, trivial⟩ ?_
   rintro _ w40 ⟨rfl, G40⟩
   have z72 := G40.size
   refine kG G40 ?_
   have S73 := ((Kp.refl ([]) w39).gr G40)
   refine qh 0 rfl rfl S73 (fun w hS => vv_not rfl)<|dn 0 rfl rfl S73<|qq 0 rfl rfl S73 (fun w hS => vv_move rfl) (fun c3 => ?_) (fun c3 => ?_)
   · replace hm := cnd_t c3 hm
     refine qx 0 rfl rfl S73<|qx 0 rfl rfl S73<|dn 0 rfl rfl S73<|dn 0 rfl rfl S73<|qx 0 rfl rfl S73<|qx 0 rfl rfl S73<|dn 0 rfl rfl S73 ?_
     refine dn 0 rfl rfl S73<|qx 0 rfl rfl S73<|qx 0 rfl rfl S73<|dn 0 rfl rfl S73<|dn 0 rfl rfl S73<|qx 0 rfl rfl S73<|qx 0 rfl rfl S73 ?_
     refine dn 0 rfl rfl S73<|dn 0 rfl rfl S73<|qx 0 rfl rfl S73<|qy rfl<|qy rfl<|qx 0 rfl rfl S73<|dn 0 rfl rfl S73 ?_
     refine sd_nil ?_
     have Y9 := Gr.trans G39 G40
     exact ⟨rfl, true, sbq, hm, (kz0.gr Y9)⟩
   replace hm := cnd_f c3 hm
   refine dn 0 rfl rfl S73<|qh 0 rfl rfl S73 (fun w hS => vv_not rfl)<|dn 0 rfl rfl S73<|qq 0 rfl rfl S73 (fun w hS => vv_move rfl) (fun c4 => ?_) (fun c4 => ?_)
   · replace hm := cnd_t c4 hm
     refine qx 0 rfl rfl S73<|qx 0 rfl rfl S73<|dn 0 rfl rfl S73<|dn 0 rfl rfl S73<|qx 0 rfl rfl S73<|qx 0 rfl rfl S73<|dn 0 rfl rfl S73 ?_
     refine dn 0 rfl rfl S73<|qx 0 rfl rfl S73<|qx 0 rfl rfl S73<|dn 0 rfl rfl S73<|dn 0 rfl rfl S73<|qx 0 rfl rfl S73<|qy rfl ?_
     refine qy rfl<|qx 0 rfl rfl S73<|dn 0 rfl rfl S73<|sd_nil ?_
     have Y10 := Gr.trans G39 G40
     exact ⟨rfl, true, sbq, hm, (kz0.gr Y10)⟩
   replace hm := cnd_f c4 hm
   refine dn 0 rfl rfl S73<|qh 0 rfl rfl S73 (fun w hS => vv_not rfl)<|dn 0 rfl rfl S73<|qq 0 rfl rfl S73 (fun w hS => vv_move rfl) (fun c5 => ?_) (fun c5 => ?_)
   · replace hm := cnd_t c5 hm
     refine qx 0 rfl rfl S73<|qx 0 rfl rfl S73<|dn 0 rfl rfl S73<|dn 0 rfl rfl S73<|qx 0 rfl rfl S73<|qx 0 rfl rfl S73<|dn 0 rfl rfl S73 ?_
     refine dn 0 rfl rfl S73<|qx 0 rfl rfl S73<|qy rfl<|qy rfl<|qx 0 rfl rfl S73<|dn 0 rfl rfl S73<|sd_nil ?_
     have Y11 := Gr.trans G39 G40
     exact ⟨rfl, true, sbq, hm, (kz0.gr Y11)⟩
   replace hm := cnd_f c5 hm
   refine dn 0 rfl rfl S73<|qh 0 rfl rfl S73 (fun w hS => vv_not rfl)<|dn 0 rfl rfl S73<|qq 0 rfl rfl S73 (fun w hS => vv_move rfl) (fun c6 => ?_) (fun c6 => ?_)
   · replace hm := cnd_t c6 hm
     refine qx 0 rfl rfl S73<|qx 0 rfl rfl S73<|dn 0 rfl rfl S73<|dn 0 rfl rfl S73<|qx 0 rfl rfl S73<|qy rfl<|qy rfl ?_
     refine qx 0 rfl rfl S73<|dn 0 rfl rfl S73<|sd_nil ?_
     have Y12 := Gr.trans G39 G40
     exact ⟨rfl, true, sbq, hm, (kz0.gr Y12)⟩
   replace hm := cnd_f c6 hm
   refine dn 0 rfl rfl S73<|qh 0 rfl rfl S73 (fun w hS => vv_neq (a := x20.2) (b := 0) rfl rfl)<|dn 0 rfl rfl S73<|qq 0 rfl rfl S73 (fun w hS => vv_move rfl) (fun c7 => ?_) (fun c7 => ?_)
   · replace hm := iT c7 hm
     refine qx 0 rfl rfl S73<|qy rfl<|qy rfl<|qx 0 rfl rfl S73<|dn 0 rfl rfl S73<|sd_nil ?_
     have Y13 := Gr.trans G39 G40
     exact ⟨rfl, true, sbq, hm, (kz0.gr Y13)⟩
   replace hm := iF c7 hm
   have B79 := (Bw27.gr G39)
   refine qh 0 rfl rfl S73 (fun w hS => vv_loadW agg_59 rfl (Bx.kp B79 hS) rfl) ?_
   obtain ⟨x29, hx29, hm⟩ := bnd hm
   refine qz [] rfl (eC en_37 rfl (law10_small_w hx29)) ⟨fun _ => tk0, trivial⟩ ?_
   rintro _ w41 ⟨rfl, G41⟩
   have z80 := G41.size
   refine kG G41 ?_
   have B81 := ((((B41.md M27 (tk1 (pb_lt (b := b26) lt38)) (fun x hx => .inr (by have := fl37 x hx; omega))).gr G39).gr G40).gr G41)
   obtain ⟨x30, hx30, hm⟩ := bnd hm
   refine qz [] rfl (eC en_36 rfl (plan_Check_w hx30 (OwnD.rd B81))) ⟨fun _ => tk0, trivial⟩ ?_
   rintro _ w42 ⟨rfl, G42⟩
   have z82 := G42.size
   refine kG G42 ?_
   have S83 := ((S73.gr G41).gr G42)
   refine qh 0 rfl rfl S83 (fun w hS => vv_neq (a := x30) (b := 0) rfl rfl)<|dn 0 rfl rfl S83<|sd_nil ?_
   exact ⟨rfl, (decide (x30 ≠ 0)), sbq, hm, ((((kz0.gr G39).gr G40).gr G41).gr G42)⟩
 clear hm; rintro a21 w28 ⟨hm, K28⟩
 have z44 := K28.size
 unfold law10_PlanExamples_J4 at hm
 refine sw_cond rfl (fun c1 => ?_) (fun c1 => ?_)
 · replace hm := cnd_t c1 hm
   refine qs 1 rfl<|qm rfl<|qb ?_
   have X45 := (X43.kz K28)
   cases hm
   refine ⟨_, _, rfl, res_1 rfl (rv_tmp rfl), ?_⟩
   exact ⟨rfl, X45⟩
 replace hm := cnd_f c1 hm
 refine qu<|qs 6 rfl<|qv rfl (vv_fieldAddr fa_59_0 rfl) ?_
 have B46 := (Bw27.kz K28)
 refine qv rfl (vv_load1 (v := u25_r0_0) one_57 rfl B46 rfl)<|qe rfl (ev_litT [0] ic bsl_32_1 rfl rfl (ws_of rfl) rfl rfl rfl) ?_
 rintro vw29 w29 ⟨gw29, hbw29, Ow29, G29⟩
 have z47 := G29.size
 have lt48 := Ow29.lth
 obtain ⟨y22, hy22, hm⟩ := bnd hm
 have B49 := (((B41.md M27 (tk1 (pb_lt (b := b26) lt38)) (fun x hx => .inr (by have := fl37 x hx; omega))).kz K28 tk0 (fun x hx => tk0)).gr G29)
 refine qv rfl (vv_ixD (i := 0) Try.underlying57 (agg_52).siz rfl (OwnD.rd B49) rfl hy22)<|qv rfl (vv_fieldAddr fa_52_7 rfl) ?_
 have zo50 := OwnD.z1 B49 hy22
 refine qe rfl (ev_stElD (i := 0) (q := 7) (a' := (TChoice.mk y22.Kind y22.Fits y22.Items y22.Points y22.Header y22.Storage y22.Cost [0])) (vs := [vw29]) (F2 := zf 1 gw29) (one_32).siz rfl rfl (cells1 (Own.oneB Ow29)) rfl (by simp [ones, (Own.oneB Ow29)]) B49 hy22 (by first | rfl | omega) rfl (fun x0 h => ⟨vw29, rfl, _, _, _, (Own.rd Ow29), in_r (in_zf _ _)⟩) (zf_lt Ow29.lth.o) (fA_zf (A := fun x => z25_r0_0 = 0 ∨ x ≠ g25_r0_0) (.inr (tk1 lt38.o)))) ?_
 rintro _ w30 ⟨Ow30, M30⟩
 have z51 := M30.size
 have fl52 := Ow30.flt
 refine sd_done<|sw_seq<|dw [([])] [] (.leaf [(1,10),(0,0),(2,0),(3,10),(4,10)]) ?_
 intro w31 G31 zw31
 refine sdz_leaf ?_
 have B53 := (((B46.gr G29).md M30 (tk1 (pb_lt (b := b26) lt38))).gr G31)
 refine dh 0 rfl rfl (fun w hS => vv_loadW agg_59 rfl (Bx.kp B53 hS) rfl) ?_
 obtain ⟨x23, hx23, hm⟩ := bnd hm
 refine qz [] rfl (eC en_37 rfl (law10_small_w hx23)) ⟨fun _ => tk0, trivial⟩ ?_
 rintro _ w32 ⟨rfl, G32⟩
 have z54 := G32.size
 refine kG G32 ?_
 have B55 := ((Ow30.gr G31).gr G32)
 obtain ⟨x24, hx24, hm⟩ := bnd hm
 refine qz [] rfl (eC en_36 rfl (plan_Check_w hx24 (OwnD.rd B55))) ⟨fun _ => tk0, trivial⟩ ?_
 rintro _ w33 ⟨rfl, G33⟩
 have z56 := G33.size
 refine kG G33 ?_
 have Y14 := Gr.trans G32 G33
 have S57 := ((Kp.refl ([]) w31).gr Y14)
 refine qh 0 rfl rfl S57 (fun w hS => vv_eql (a := x24) (b := 0) rfl rfl)<|dn 0 rfl rfl S57<|qd 6 rfl<|qv rfl (vv_fieldAddr fa_59_0 rfl) ?_
 have B58 := (B53.gr Y14)
 refine qv rfl (vv_load1 (v := u25_r0_0) one_57 rfl B58 rfl)<|qe rfl (ev_litT [0, 1] ic bsl_32_2 rfl rfl (ws_of rfl) rfl rfl rfl) ?_
 rintro vw34 w34 ⟨gw34, hbw34, Ow34, G34⟩
 have z59 := G34.size
 have lt60 := Ow34.lth
 obtain ⟨y25, hy25, hm⟩ := bnd hm
 have B61 := ((B55.gr G33).gr G34)
 refine qv rfl (vv_ixD (i := 0) Try.underlying57 (agg_52).siz rfl (OwnD.rd B61) rfl hy25)<|qv rfl (vv_fieldAddr fa_52_7 rfl) ?_
 have zo62 := OwnD.z1 B61 hy25
 refine qe rfl (ev_stElD (i := 0) (q := 7) (a' := (TChoice.mk y25.Kind y25.Fits y25.Items y25.Points y25.Header y25.Storage y25.Cost [0, 1])) (vs := [vw34]) (F2 := zf 1 gw34) (one_32).siz rfl rfl (cells1 (Own.oneB Ow34)) rfl (by simp [ones, (Own.oneB Ow34)]) B61 hy25 (by first | rfl | omega) rfl (fun x0 h => ⟨vw34, rfl, _, _, _, (Own.rd Ow34), in_r (in_zf _ _)⟩) (zf_lt Ow34.lth.o) (fA_zf (A := fun x => z25_r0_0 = 0 ∨ x ≠ g25_r0_0) (.inr (tk1 lt38.o)))) ?_
 rintro _ w35 ⟨Ow35, M35⟩
 have z63 := M35.size
 have fl64 := Ow35.flt
 refine sd_done<|sw_seq<|dw [([])] [] (.leaf [(0,10),(1,10),(3,10),(2,0),(4,0),(5,10),(6,10),(7,10)]) ?_
 intro w36 G36 zw36
 refine sdz_leaf<|dm 0 rfl rfl<|qqF 0 rfl rfl (Kp.refl ([]) w36) (fun w hS => vv_move rfl) (fun c2 => ?_) (fun c2 => ?_)
 · replace hm := iF c2 hm
   refine dx 0 rfl rfl<|qy rfl<|qy rfl<|dx 0 rfl rfl<|dm 0 rfl rfl<|dm 0 rfl rfl<|sd_done ?_
   refine sw_ret ?_
   have X71 := ((((((((X43.kz K28).trans G29).md M30 (tk1 (pv_0 (A := (fun x => w.heap.size ≤ x)) f25_r0_0))).trans G31).trans Y14).trans G34).md M35 (tk1 (pv_0 (A := (fun x => w.heap.size ≤ x)) f25_r0_0))).trans G36)
   cases hm
   refine ⟨_, _, rfl, res_1 rfl (rv_tmp rfl), ?_⟩
   exact ⟨rfl, X71⟩
 replace hm := iT c2 hm
 have B65 := (((B58.gr G34).md M35 (tk1 (pb_lt (b := b26) lt38))).gr G36)
 refine dh 0 rfl rfl (fun w hS => vv_loadW agg_59 rfl (Bx.kp B65 hS) rfl) ?_
 obtain ⟨x26, hx26, hm⟩ := bnd hm
 refine qz [] rfl (eC en_37 rfl (law10_small_w hx26)) ⟨fun _ => tk0, trivial⟩ ?_
 rintro _ w37 ⟨rfl, G37⟩
 have z66 := G37.size
 refine kG G37 ?_
 have B67 := ((Ow35.gr G36).gr G37)
 obtain ⟨x27, hx27, hm⟩ := bnd hm
 refine qz [] rfl (eC en_36 rfl (plan_Check_w hx27 (OwnD.rd B67))) ⟨fun _ => tk0, trivial⟩ ?_
 rintro _ w38 ⟨rfl, G38⟩
 have z68 := G38.size
 refine kG G38 ?_
 have S69 := (((Kp.refl ([]) w36).gr G37).gr G38)
 refine qh 0 rfl rfl S69 (fun w hS => vv_eql (a := x27) (b := 100) rfl rfl)<|dn 0 rfl rfl S69<|dn 0 rfl rfl S69<|sd_done<|sw_ret ?_
 have X70 := ((((((((((X43.kz K28).trans G29).md M30 (tk1 (pv_0 (A := (fun x => w.heap.size ≤ x)) f25_r0_0))).trans G31).trans Y14).trans G34).md M35 (tk1 (pv_0 (A := (fun x => w.heap.size ≤ x)) f25_r0_0))).trans G36).trans G37).trans G38)
 cases hm
 refine ⟨_, _, rfl, res_1 rfl (rv_tmp rfl), ?_⟩
 exact ⟨rfl, X70⟩
end Go.Proofs.Ytopkalcefepilaa.Mx
