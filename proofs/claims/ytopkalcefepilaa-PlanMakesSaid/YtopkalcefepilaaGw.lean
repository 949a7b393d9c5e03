/- Walks that follow mirrors: Gw. Printed by mx.py. -/
import Derived.Test.YtopkalcefepilaaGt
import Derived.Test.YtopkalcefepilaaZd
set_option linter.unusedVariables false
set_option linter.unusedSimpArgs false
set_option maxRecDepth 100000
set_option maxHeartbeats 2000000
namespace Go.Proofs.Ytopkalcefepilaa.Mx
open Go Go.RowKit Go.Sx
theorem en_49 : En Try.prog 49 := fun _ _ => by kernel_rfl
theorem en_77 : En Try.prog 77 := fun _ _ => by kernel_rfl
theorem en_40 : En Try.prog 40 := fun _ _ => by kernel_rfl
theorem en_78 : En Try.prog 78 := fun _ _ => by kernel_rfl
theorem en_42 : En Try.prog 42 := fun _ _ => by kernel_rfl
theorem en_41 : En Try.prog 41 := fun _ _ => by kernel_rfl
theorem en_84 : En Try.prog 84 := fun _ _ => by kernel_rfl
theorem en_44 : En Try.prog 44 := fun _ _ => by kernel_rfl
theorem ref03_Receivers_w {p0 r} (hm : ref03_Receivers p0 = some r) {w : World} :
    Calls Try.prog 77 [.int .i64 p0].toArray w fun e w' => ∃ v, e = .returned v ∧ (v = .int .i64 r ∧ Gr w w') := by
 unfold ref03_Receivers at hm
 refine calls_of_sw 13 Try.func77 rfl rfl rfl<|qs 1 rfl<|qm rfl<|qd 1 rfl ?_
 refine qm rfl<|sd_done<|sw_seq<|qs 1 rfl<|qm rfl<|sd_done ?_
 refine sw_block<|sw_loopD (α := Nat × Int × Int) (rg 3 9) (fun ⟨n1, a3, a4⟩ => [(3, .int .i64 a3), (4, .int .i64 a4)]) (fun ⟨n1, a3, a4⟩ wr => (fixN (ref03_Receivers_L1 p0) n1 (a3, a4) = some r) ∧ Kz [] w wr) (fun ⟨n1, a3, a4⟩ => n1) ⟨FUEL, 1, 0⟩ ?_ ?_ ?_
 · exact sbq
 · exact ⟨hm, Kz.refl _ _⟩
 clear hm; rintro ⟨n1, a3, a4⟩ w1 ⟨hm, K1⟩
 have z1 := K1.size
 have hb := fix_succ hm; clear hm; obtain ⟨n1, rfl, hm⟩ := hb
 generalize hrec1 : fixN (ref03_Receivers_L1 p0) n1 = rec1 at hm
 unfold ref03_Receivers_L1 at hm
 try dsimp only at hm
 refine sw_seq<|qs 3 rfl<|qm rfl<|qm rfl<|qv rfl (vv_lss (a := a4) (b := p0) rfl rfl)<|sd_done ?_
 refine cnF rfl (fun c1 => ?_) (fun c1 => ?_)
 · replace hm := iF c1 hm
   refine sw_exit<|then_x<|then_x<|block_x<|then_n<|qs 2 rfl ?_
   refine qm rfl<|qm rfl<|sd_done<|sw_ret ?_
   have X3 := ((Gr.refl w).kz K1)
   cases hm
   refine ⟨_, _, rfl, res_1 rfl (rv_tmp rfl), ?_⟩
   exact ⟨rfl, X3⟩
 replace hm := iT c1 hm
 refine qu<|sw_seq<|sw_block<|qg 3 rfl<|qm rfl<|qv rfl (vv_mul (k := .i64) (a := 2) (b := a3) rfl rfl) ?_
 refine qm rfl<|sd_nil<|block_n<|then_n<|qg 3 rfl<|qm rfl<|qv rfl (vv_add (k := .i64) (a := a4) (b := 1) rfl rfl) ?_
 refine qm rfl<|sd_nil ?_
 have K_2 : Kz [] w w1 := K1
 subst hrec1
 exact ⟨rfl, ⟨n1, w64 (2 * a3), w64 (a4 + 1)⟩, sbq, ⟨hm, K_2⟩, Nat.lt_succ_self _⟩
theorem ref10_asked_w {p0 p1 r} (hm : ref10_asked p0 p1 = some r) {w : World} :
    Calls Try.prog 40 [.agg (TScheme.cs p0).toArray, .int .i64 p1].toArray w fun e w' => ∃ v, e = .returned v ∧ (v = .int .i64 r ∧ Gr w w') := by
 unfold ref10_asked at hm
 refine calls_of_sw 20 Try.func40 rfl rfl rfl<|qs 2 rfl<|qe rfl (ev_box (cs := TScheme.cs p0) rfl rfl) ?_
 rintro _ w1 ⟨b1, rfl, hbw1, Bw1, G1⟩
 have z1 := G1.size
 have lt2 := Bw1.lt
 refine qm rfl<|sd_done<|sw_seq<|qs 3 rfl<|qv rfl (vv_loadW agg_26 rfl Bw1 rfl) ?_
 obtain ⟨x1, hx1, hm⟩ := bnd hm
 refine qe rfl (eC en_49 rfl (ref03_Check_w hx1)) ?_
 rintro _ w2 ⟨rfl, G2⟩
 have z3 := G2.size
 refine qm rfl<|qd 2 rfl<|qm rfl<|qv rfl (vv_neq (a := x1) (b := 0) rfl rfl)<|sd_done ?_
 refine sw_cond rfl (fun c1 => ?_) (fun c1 => ?_)
 · replace hm := iT c1 hm
   refine qs 2 rfl<|qm rfl<|qm rfl<|sd_done<|sw_ret<|then_r ?_
   have X4 := (((Gr.refl w).trans G1).trans G2)
   cases hm
   refine ⟨_, _, rfl, res_1 rfl (rv_tmp rfl), ?_⟩
   exact ⟨rfl, X4⟩
 replace hm := iF c1 hm
 refine qu<|sw_seq ?_
 have X5 := (((Gr.refl w).trans G1).trans G2)
 refine qj (β := Bool) (rg 11 9) (fun a2 => [(19, .bool a2)]) (fun a2 wr => (ref10_asked_J1 a2 = some r) ∧ Kz [] w2 wr) ?_ ?_
 · refine qg 9 rfl<|qm rfl<|qv rfl (vv_lss (a := p1) (b := 0) rfl rfl)<|qp rfl (vv_move rfl) (fun c3 => ?_) (fun c3 => ?_)
   · replace hm := iT c3 hm
     refine qk rfl<|qk rfl<|qk rfl<|qk rfl<|qk rfl<|qm rfl<|sd_nil ?_
     exact ⟨rfl, true, sbq, hm, kz0⟩
   replace hm := iF c3 hm
   refine qm rfl<|qv rfl (vv_fieldAddr fa_26_1 rfl) ?_
   have B10 := (Bw1.gr G2)
   refine qv rfl (vv_load1 (v := .int .i64 p0.Depth) one_3 rfl B10 rfl) ?_
   obtain ⟨x3, hx3, hm⟩ := bnd hm
   refine qe rfl (eC en_77 rfl (ref03_Receivers_w hx3)) ?_
   rintro _ w4 ⟨rfl, G4⟩
   have z11 := G4.size
   refine qv rfl (vv_gtr (a := p1) (b := x3) rfl rfl)<|qm rfl<|sd_nil ?_
   exact ⟨rfl, (decide (x3 < p1)), sbq, hm, (kz0.gr G4)⟩
 clear hm; rintro a2 w3 ⟨hm, K3⟩
 have z6 := K3.size
 unfold ref10_asked_J1 at hm
 refine sw_cond rfl (fun c2 => ?_) (fun c2 => ?_)
 · replace hm := cnd_t c2 hm
   refine qs 1 rfl<|qm rfl<|qb ?_
   have X7 := (X5.kz K3)
   cases hm
   refine ⟨_, _, rfl, res_1 rfl (rv_tmp rfl), ?_⟩
   exact ⟨rfl, X7⟩
 replace hm := cnd_f c2 hm
 refine qu<|qs 1 rfl<|qm rfl<|sd_done<|sw_ret ?_
 have X8 := (X5.kz K3)
 cases hm
 refine ⟨_, _, rfl, res_1 rfl (rv_tmp rfl), ?_⟩
 exact ⟨rfl, X8⟩
theorem ref10_count_w (p0 : TScheme) (p1 : List (List (List Int))) (p2 : Int) (vp1 : Value) (zp1 gp1 op1 : Nat) (Fp1 : List Nat) (r : Int) (hm : ref10_count p0 p1 p2 = some r) (w : World) (hp1 : RdD (rpSd (rpSl 1 ic)) w zp1 gp1 op1 vp1 Fp1 p1)  :
    Calls Try.prog 78 [.agg (TScheme.cs p0).toArray, vp1, .int .i64 p2].toArray w fun e w' => ∃ v, e = .returned v ∧ (v = .int .i64 r ∧ Gr w w') := by
 have fl1 := hp1.flt
 have lt2 := hp1.lth
 unfold ref10_count at hm
 refine calls_of_sw 19 Try.func78 rfl rfl rfl<|qs 2 rfl<|qe rfl (ev_box (cs := TScheme.cs p0) rfl rfl) ?_
 rintro _ w1 ⟨b1, rfl, hbw1, Bw1, G1⟩
 have z3 := G1.size
 have lt4 := Bw1.lt
 refine qm rfl<|sd_done<|sw_seq<|qs 2 rfl<|qm rfl<|qv rfl (vv_eql (a := p2) (b := 0) rfl rfl) ?_
 refine sd_done<|sw_cond rfl (fun c1 => ?_) (fun c1 => ?_)
 · replace hm := iT c1 hm
   refine qs 1 rfl<|qm rfl<|qb ?_
   have X5 := ((Gr.refl w).trans G1)
   cases hm
   refine ⟨_, _, rfl, res_1 rfl (rv_tmp rfl), ?_⟩
   exact ⟨rfl, X5⟩
 replace hm := iF c1 hm
 refine qu<|sw_seq<|dw [([])] [] (.leaf [(0,10),(1,10),(2,10),(3,10),(4,10),(5,10),(6,10),(7,10),(8,10),(9,10),(10,10)]) ?_
 intro w2 G2 zw2
 refine sdz_leaf<|dm 0 rfl rfl ?_
 obtain ⟨y1, hy1, hm⟩ := bnd hm
 have B6 := ((hp1.gr G1).gr G2)
 refine dh 0 rfl rfl (fun w hS => vv_ixD (i := 0) Try.underlying39 (one_73).siz rfl (RdD.kp B6 hS (.inr List.not_mem_nil) (fun _ _ => List.not_mem_nil)) rfl hy1) ?_
 obtain ⟨lg7, x7_, z7_, g7_, o7_, R7, gx7, Q7, pf7⟩ := atSd B6 hy1
 have lt8 := Q7.lth
 refine dh 0 rfl rfl (fun w hS => vv_el1T (c := (fun p => [p.2])) (q := 0) (u := x7_) one_73 rfl (Rd.kp R7 hS (.inr List.not_mem_nil)) gx7 (by first | rfl | omega) rfl)<|dh 0 rfl rfl (fun w hS => vv_fieldAddr fa_26_1 rfl) ?_
 have B9 := (Bw1.gr G2)
 refine dh 0 rfl rfl (fun w hS => vv_load1 (v := .int .i64 p0.Depth) one_3 rfl (Bx.kp B9 hS) rfl) ?_
 obtain ⟨y2, hy2, hm⟩ := bnd hm
 refine dh 0 rfl rfl (fun w hS => vv_ixD (i := p0.Depth) Try.underlying73 (one_32).siz rfl (RdD.kp Q7 hS (.inr List.not_mem_nil) (fun _ _ => List.not_mem_nil)) rfl hy2) ?_
 obtain ⟨lg10, x10_, z10_, g10_, o10_, R10, gx10, Q10, pf10⟩ := atSl Q7 hy2
 have lt11 := Q10.lth
 refine dh 0 rfl rfl (fun w hS => vv_el1T (c := (fun p => [p.2])) (q := 0) (u := x10_) one_32 rfl (Rd.kp R10 hS (.inr List.not_mem_nil)) gx10 (by first | rfl | omega) rfl)<|dm 0 rfl rfl ?_
 obtain ⟨y3, hy3, hm⟩ := bnd hm
 refine dh 0 rfl rfl (fun w hS => vv_ixT (i := p2) Try.underlying32 (one_3).siz rfl (Rd.kp Q10 hS) rfl hy3)<|dh 0 rfl rfl (fun w hS => vv_el1T (q := 0) (u := .int .i64 y3) one_3 rfl (Rd.kp Q10 hS) hy3 (by first | rfl | omega) rfl)<|dm 0 rfl rfl<|sd_done<|sw_ret ?_
 have X12 := (((Gr.refl w).trans G1).trans G2)
 cases hm
 refine ⟨_, _, rfl, res_1 rfl (rv_tmp rfl), ?_⟩
 exact ⟨rfl, X12⟩
theorem ref10_greatest_w (p0 : TScheme) (p1 : List (List (List Int))) (p2 : Int) (vp1 : Value) (zp1 gp1 op1 : Nat) (Fp1 : List Nat) (r : Int × Int) (hm : ref10_greatest p0 p1 p2 = some r) (w : World) (hp1 : RdD (rpSd (rpSl 1 ic)) w zp1 gp1 op1 vp1 Fp1 p1)  :
    Calls Try.prog 41 [.agg (TScheme.cs p0).toArray, vp1, .int .i64 p2].toArray w fun e w' => ∃ v, e = .returned v ∧ (v = .tuple [.int .i64 r.1, .int .i64 r.2].toArray ∧ Gr w w') := by
 have fl1 := hp1.flt
 have lt2 := hp1.lth
 unfold ref10_greatest at hm
 refine calls_of_sw 28 Try.func41 rfl rfl rfl<|qs 3 rfl<|qe rfl (ev_box (cs := TScheme.cs p0) rfl rfl) ?_
 rintro _ w1 ⟨b1, rfl, hbw1, Bw1, G1⟩
 have z3 := G1.size
 have lt4 := Bw1.lt
 refine qm rfl<|qm rfl<|qd 2 rfl<|qm rfl<|qm rfl ?_
 refine sd_done<|sw_seq<|qs 1 rfl<|qm rfl<|sd_done<|sw_block ?_
 have X5 := ((Gr.refl w).trans G1)
 have B6 := (hp1.gr G1)
 refine sw_loopD (α := Nat × Int × Int × Int) (rg 8 18) (fun ⟨n1, a4, a5, a6⟩ => [(8, .int .i64 a4), (9, .int .i64 a5), (10, .int .i64 a6)]) (fun ⟨n1, a4, a5, a6⟩ wr => (fixN (ref10_greatest_L1 p0 p1 p2) n1 (a4, a5, a6) = some r) ∧ Kz [] w1 wr) (fun ⟨n1, a4, a5, a6⟩ => n1) ⟨FUEL, (-1), (-1), 0⟩ ?_ ?_ ?_
 · exact sbq
 · exact ⟨hm, Kz.refl _ _⟩
 clear hm; rintro ⟨n1, a4, a5, a6⟩ w2 ⟨hm, K2⟩
 have z7 := K2.size
 have hb := fix_succ hm; clear hm; obtain ⟨n1, rfl, hm⟩ := hb
 generalize hrec1 : fixN (ref10_greatest_L1 p0 p1 p2) n1 = rec1 at hm
 unfold ref10_greatest_L1 at hm
 try dsimp only at hm
 refine sw_seq<|qs 3 rfl<|qm rfl<|qm rfl<|qv rfl (vv_leq (a := a6) (b := p2) rfl rfl)<|sd_done ?_
 refine cnF rfl (fun c1 => ?_) (fun c1 => ?_)
 · replace hm := iF c1 hm
   refine sw_exit<|then_x<|then_x<|block_x<|then_n<|qs 4 rfl ?_
   refine qm rfl<|qm rfl<|qm rfl<|qm rfl<|sd_done<|sw_ret ?_
   have X13 := (X5.kz K2)
   cases hm
   refine ⟨_, _, rfl, res_2 rfl (rv_tmp rfl) (rv_tmp rfl), ?_⟩
   exact ⟨rfl, X13⟩
 replace hm := iT c1 hm
 refine qu<|sw_seq<|sw_block<|qs 5 rfl ?_
 have B8 := (Bw1.kz K2)
 refine qv rfl (vv_loadW agg_26 rfl B8 rfl)<|qm rfl<|qm rfl ?_
 have B9 := (B6.kz K2 tk0 (fun x hx => tk0))
 obtain ⟨x7, hx7, hm⟩ := bnd hm
 refine qe rfl (eC en_78 rfl (ref10_count_w p0 p1 a6 _ _ _ _ _ _ hx7 _ B9)) ?_
 rintro _ w3 ⟨rfl, G3⟩
 have z10 := G3.size
 refine qm rfl<|qd 3 rfl<|qm rfl<|qm rfl<|qv rfl (vv_gtr (a := x7) (b := a4) rfl rfl) ?_
 refine sd_done<|cnF rfl (fun c2 => ?_) (fun c2 => ?_)
 · replace hm := iF c2 hm
   refine sw_skip<|block_n<|then_n<|qg 3 rfl<|qm rfl<|qv rfl (vv_add (k := .i64) (a := a6) (b := 1) rfl rfl)<|qm rfl ?_
   refine sd_nil ?_
   have K_12 : Kz [] w1 w3 := (K2.gr G3)
   subst hrec1
   exact ⟨rfl, ⟨n1, a4, a5, w64 (a6 + 1)⟩, sbq, ⟨hm, K_12⟩, Nat.lt_succ_self _⟩
 replace hm := iT c2 hm
 refine qg 4 rfl<|qm rfl<|qm rfl<|qm rfl<|qm rfl<|sd_nil<|block_n ?_
 refine then_n<|qg 3 rfl<|qm rfl<|qv rfl (vv_add (k := .i64) (a := a6) (b := 1) rfl rfl)<|qm rfl<|sd_nil ?_
 have K_11 : Kz [] w1 w3 := (K2.gr G3)
 subst hrec1
 exact ⟨rfl, ⟨n1, x7, a6, w64 (a6 + 1)⟩, sbq, ⟨hm, K_11⟩, Nat.lt_succ_self _⟩
theorem ref10_Worst_w {p0 p1 r} (hm : ref10_Worst p0 p1 = some r) {w : World} :
    Calls Try.prog 15 [.agg (TScheme.cs p0).toArray, .int .i64 p1].toArray w fun e w' => ∃ v, e = .returned v ∧ (v = .tuple [.int .i64 r.1, .int .i64 r.2].toArray ∧ Gr w w') := by
 unfold ref10_Worst at hm
 refine calls_of_sw 24 Try.func15 rfl rfl rfl<|qs 3 rfl<|qe rfl (ev_box (cs := TScheme.cs p0) rfl rfl) ?_
 rintro _ w1 ⟨b1, rfl, hbw1, Bw1, G1⟩
 have z1 := G1.size
 have lt2 := Bw1.lt
 refine qm rfl<|qm rfl<|sd_done<|sw_seq<|qs 4 rfl<|qv rfl (vv_loadW agg_26 rfl Bw1 rfl) ?_
 refine qm rfl ?_
 obtain ⟨x1, hx1, hm⟩ := bnd hm
 refine qe rfl (eC en_40 rfl (ref10_asked_w hx1)) ?_
 rintro _ w2 ⟨rfl, G2⟩
 have z3 := G2.size
 refine qm rfl<|qd 2 rfl<|qm rfl<|qv rfl (vv_neq (a := x1) (b := 0) rfl rfl)<|sd_done ?_
 refine sw_cond rfl (fun c1 => ?_) (fun c1 => ?_)
 · replace hm := iT c1 hm
   refine qs 3 rfl<|qm rfl<|qm rfl<|qm rfl<|sd_done<|sw_ret ?_
   refine then_r ?_
   have X4 := (((Gr.refl w).trans G1).trans G2)
   cases hm
   refine ⟨_, _, rfl, res_2 rfl (rv_tmp rfl) (rv_tmp rfl), ?_⟩
   exact ⟨rfl, X4⟩
 replace hm := iF c1 hm
 refine qu<|sw_seq<|dw [([])] [] (.leaf [(0,10),(1,10),(3,10),(2,0),(4,0),(5,10),(6,10),(7,10),(8,10),(9,10)]) ?_
 intro w3 G3 zw3
 refine sdz_leaf ?_
 have B5 := ((Bw1.gr G2).gr G3)
 refine dh 0 rfl rfl (fun w hS => vv_loadW agg_26 rfl (Bx.kp B5 hS) rfl)<|dh 0 rfl rfl (fun w hS => vv_loadW agg_26 rfl (Bx.kp B5 hS) rfl)<|dm 0 rfl rfl ?_
 obtain ⟨x2, hx2, hm⟩ := bnd hm
 refine qz [] rfl (eC en_42 rfl (ref10_TablesOf_w p0 _ hx2 _)) ⟨fun _ => tk0, trivial⟩ ?_
 rintro u4_r0_s w4 ⟨_, z4_r0_s, g4_r0_s, F4_r0_s, rfl, O4_r0_s, f4_r0_s, p4_r0_s, G4⟩
 have z6 := G4.size
 have fl7 := O4_r0_s.flt
 have lt8 := O4_r0_s.lth
 refine kG G4 ?_
 obtain ⟨x3, hx3, hm⟩ := bnd hm
 refine qz [] rfl (eC en_41 rfl (ref10_greatest_w p0 x2 p1 _ _ _ _ _ _ hx3 _ (OwnD.rd O4_r0_s))) ⟨fun _ => tk0, trivial⟩ ?_
 rintro _ w5 ⟨rfl, G5⟩
 have z9 := G5.size
 refine kG G5 ?_
 have S10 := (((Kp.refl ([]) w3).gr G4).gr G5)
 refine dn 0 rfl rfl S10<|dn 0 rfl rfl S10<|dn 0 rfl rfl S10<|dn 0 rfl rfl S10<|dn 0 rfl rfl S10<|sd_done<|sw_seq ?_
 refine qg 3 rfl<|qm rfl<|qm rfl<|qm rfl<|sd_done<|sw_ret ?_
 have X11 := ((((((Gr.refl w).trans G1).trans G2).trans G3).trans G4).trans G5)
 cases hm
 refine ⟨_, _, rfl, res_2 rfl (rv_tmp rfl) (rv_tmp rfl), ?_⟩
 exact ⟨rfl, X11⟩
theorem ref10_listed_i (n : Nat) : ∀ (p0 : TScheme) (p1 : List (List (List Int))) (p2 : Int) (p3 : Int) (p4 : Int) (p5 : Int) (vp1 : Value) (zp1 gp1 op1 : Nat) (Fp1 : List Nat) (r : List Int) (hm : fixN ref10_listed_F n (p0, p1, p2, p3, p4, p5) = some r) (w : World) (hp1 : RdD (rpSd (rpSl 1 ic)) w zp1 gp1 op1 vp1 Fp1 p1) ,
    Calls Try.prog 84 [.agg (TScheme.cs p0).toArray, vp1, .int .i64 p2, .int .i64 p3, .int .i64 p4, .int .i64 p5].toArray w fun e w' => ∃ v, e = .returned v ∧ (∃ (ur0_s : Value) (zr0_s : Nat) (gr0_s : Nat), v = ur0_s ∧ Own w' zr0_s gr0_s 3 1 ur0_s (r.map ic) ∧ Hdn (zr0_s = 0 ∨ w.heap.size ≤ gr0_s) ∧ Gr w w') := by
 induction n with
 | zero => intro p0 p1 p2 p3 p4 p5 vp1 zp1 gp1 op1 Fp1 r hm w hp1; cases hm
 | succ n ih =>
 intro p0 p1 p2 p3 p4 p5 vp1 zp1 gp1 op1 Fp1 r hm w hp1
 replace hm : ref10_listed_R (fixN ref10_listed_F n) p0 p1 p2 p3 p4 p5 = some r := hm
 generalize fixN ref10_listed_F n = rec0 at hm ih
 have fl1 := hp1.flt
 have lt2 := hp1.lth
 unfold ref10_listed_R at hm
 refine calls_of_sw 75 Try.func84 rfl rfl rfl<|qs 2 rfl<|qe rfl (ev_box (cs := TScheme.cs p0) rfl rfl) ?_
 rintro _ w1 ⟨b1, rfl, hbw1, Bw1, G1⟩
 have z3 := G1.size
 have lt4 := Bw1.lt
 refine qm rfl<|sd_done<|sw_seq<|qs 2 rfl<|qm rfl<|qv rfl (vv_eql (a := p5) (b := 0) rfl rfl) ?_
 refine sd_done<|sw_cond rfl (fun c1 => ?_) (fun c1 => ?_)
 · replace hm := iT c1 hm
   refine qs 1 rfl<|qm rfl<|qb ?_
   have X5 := ((Gr.refl w).trans G1)
   cases hm
   refine ⟨_, _, rfl, res_1 rfl (rv_tmp rfl), ?_⟩
   exact ⟨(.slice none 0 0), 0, 0, rfl, (own_nil _ 0 3 1), ⟨.inl rfl⟩, X5⟩
 replace hm := iF c1 hm
 refine qu<|sw_seq<|qs 2 rfl<|qm rfl<|qv rfl (vv_eql (a := p4) (b := 0) rfl rfl) ?_
 refine sd_done<|sw_cond rfl (fun c2 => ?_) (fun c2 => ?_)
 · replace hm := iT c2 hm
   refine qs 7 rfl<|qm rfl<|qv rfl (vv_fieldAddr fa_26_1 rfl)<|qv rfl (vv_load1 (v := .int .i64 p0.Depth) one_3 rfl Bw1 rfl) ?_
   obtain ⟨x1, hx1, hm⟩ := bnd hm
   refine qe rfl (eC en_77 rfl (ref03_Receivers_w hx1)) ?_
   rintro _ w2 ⟨rfl, G2⟩
   have z6 := G2.size
   refine qv rfl (vv_sub (k := .i64) (a := p2) (b := x1) rfl rfl)<|qe rfl (ev_litT [w64 (p2 - x1)] ic bsl_32_1 rfl rfl (ws_of rfl) rfl rfl rfl) ?_
   rintro vw3 w3 ⟨gw3, hbw3, Ow3, G3⟩
   have z7 := G3.size
   have lt8 := Ow3.lth
   refine qm rfl<|qb ?_
   have X9 := ((((Gr.refl w).trans G1).trans G2).trans G3)
   cases hm
   refine ⟨_, _, rfl, res_1 rfl (rv_tmp rfl), ?_⟩
   exact ⟨vw3, 1, gw3, rfl, Ow3, ⟨(.inr tk0)⟩, X9⟩
 replace hm := iF c2 hm
 refine qu<|qs 11 rfl<|qv rfl (vv_loadW agg_26 rfl Bw1 rfl)<|qm rfl<|qm rfl ?_
 refine qm rfl<|qm rfl ?_
 have B10 := (hp1.gr G1)
 obtain ⟨x2, hx2, hm⟩ := bnd hm
 refine qe rfl (eC en_81 rfl (ref10_best_w p0 p1 p3 p4 p5 _ _ _ _ _ _ hx2 _ B10)) ?_
 rintro _ w4 ⟨rfl, G4⟩
 have z11 := G4.size
 refine qm rfl<|qm rfl<|qm rfl<|qm rfl<|qm rfl<|sd_done<|sw_seq ?_
 refine qg 1 rfl<|qm rfl<|sd_done ?_
 have X12 := (((Gr.refl w).trans G1).trans G4)
 refine qj (β := Int) ([15] ++ rg 36 16) (fun a3 => [(15, .int .i64 a3)]) (fun a3 wr => (ref10_listed_J1 p0 p1 p2 p4 p5 rec0 x2 a3 = some r) ∧ Kz [] w4 wr) ?_ ?_
 · refine qj (β := Bool) (rg 36 12) (fun a7 => [(47, .bool a7)]) (fun a7 wr => (ref10_listed_J2 p0 p1 p2 p3 p4 p5 rec0 x2 a7 = some r) ∧ Kz [] w4 wr) ?_ ?_
   · refine qg 12 rfl<|qv rfl (vv_fieldAddr fa_26_0 rfl) ?_
     have B30 := (Bw1.gr G4)
     refine qv rfl (vv_load1 (v := bv p0.Kind) one_5 rfl B30 rfl)<|qv rfl (vv_neqB (p := p0.Kind) (q := 1#8) rfl rfl)<|qpF rfl (vv_move rfl) (fun c4 => ?_) (fun c4 => ?_)
     · replace hm := iF c4 hm
       refine qk rfl<|qk rfl<|qk rfl<|qk rfl<|qk rfl<|qk rfl<|qk rfl ?_
       refine qm rfl<|sd_nil ?_
       exact ⟨rfl, false, sbq, hm, kz0⟩
     replace hm := iT c4 hm
     refine qm rfl<|qv rfl (vv_eql (a := x2.2) (b := 0) rfl rfl)<|qp rfl (vv_move rfl) (fun c5 => ?_) (fun c5 => ?_)
     · replace hm := iT c5 hm
       refine qk rfl<|qk rfl<|qk rfl<|qm rfl<|qm rfl<|sd_nil ?_
       exact ⟨rfl, true, sbq, hm, kz0⟩
     replace hm := iF c5 hm
     refine qm rfl<|qm rfl<|qv rfl (vv_eql (a := x2.2) (b := p5) rfl rfl)<|qm rfl<|qm rfl<|sd_nil ?_
     exact ⟨rfl, (decide (x2.2 = p5)), sbq, hm, kz0⟩
   clear hm; rintro a7 w9 ⟨hm, K9⟩
   have z25 := K9.size
   unfold ref10_listed_J2 at hm
   refine cnF rfl (fun c3 => ?_) (fun c3 => ?_)
   · replace hm := cnd_f c3 hm
     refine sw_skip ?_
     exact ⟨rfl, 0, sbq, hm, (kz0.kz K9)⟩
   replace hm := cnd_t c3 hm
   refine qg 5 rfl ?_
   have B26 := ((Bw1.gr G4).kz K9)
   refine qv rfl (vv_loadW agg_26 rfl B26 rfl)<|qm rfl<|qm rfl ?_
   obtain ⟨x8, hx8, hm⟩ := bnd hm
   refine qe rfl (eC en_111 rfl (ref10_below_w hx8)) ?_
   rintro _ w10 ⟨rfl, G10⟩
   have z27 := G10.size
   refine qm rfl<|sd_nil ?_
   exact ⟨rfl, x8, sbq, hm, ((kz0.kz K9).gr G10)⟩
 clear hm; rintro a3 w5 ⟨hm, K5⟩
 have z13 := K5.size
 unfold ref10_listed_J1 at hm
 refine qs 10 rfl ?_
 have B14 := ((Bw1.gr G4).kz K5)
 refine qv rfl (vv_loadW agg_26 rfl B14 rfl)<|qm rfl<|qm rfl<|qv rfl (vv_mul (k := .i64) (a := 2) (b := p2) rfl rfl)<|qm rfl<|qm rfl<|qv rfl (vv_sub (k := .i64) (a := p4) (b := 1) rfl rfl) ?_
 refine qm rfl ?_
 have B15 := ((B10.gr G4).kz K5 tk0 (fun x hx => tk0))
 obtain ⟨x4, hx4, hm⟩ := bnd hm
 refine qe rfl (eC en_84 rfl (ih p0 p1 (w64 (2 * p2)) a3 (w64 (p4 - 1)) x2.2 _ _ _ _ _ _ hx4 _ B15)) ?_
 rintro u6_r0_s w6 ⟨_, z6_r0_s, g6_r0_s, rfl, O6_r0_s, f6_r0_s, G6⟩
 have z16 := G6.size
 have lt17 := O6_r0_s.lth
 refine qm rfl<|qd 15 rfl<|qm rfl ?_
 have B18 := (B14.gr G6)
 refine qv rfl (vv_loadW agg_26 rfl B18 rfl)<|qm rfl<|qm rfl<|qv rfl (vv_mul (k := .i64) (a := 2) (b := p2) rfl rfl)<|qv rfl (vv_add (k := .i64) (a := w64 (2 * p2)) (b := 1) rfl rfl)<|qm rfl<|qm rfl ?_
 refine qv rfl (vv_sub (k := .i64) (a := p4) (b := 1) rfl rfl)<|qm rfl<|qm rfl<|qv rfl (vv_sub (k := .i64) (a := p5) (b := x2.2) rfl rfl) ?_
 have B19 := (B15.gr G6)
 obtain ⟨x5, hx5, hm⟩ := bnd hm
 refine qe rfl (eC en_84 rfl (ih p0 p1 (w64 ((w64 (2 * p2)) + 1)) a3 (w64 (p4 - 1)) (w64 (p5 - x2.2)) _ _ _ _ _ _ hx5 _ B19)) ?_
 rintro u7_r0_s w7 ⟨_, z7_r0_s, g7_r0_s, rfl, O7_r0_s, f7_r0_s, G7⟩
 have z20 := G7.size
 have lt21 := O7_r0_s.lth
 have B22 := (O6_r0_s.gr G7)
 obtain ⟨l6, hl6, hm⟩ := bnd hm
 refine qe rfl (ev_appT (l := x4) (m := x5) (c := ic) apt_32 rfl rfl B22 (Own.rd O7_r0_s) hl6 (by decide)) ?_
 rintro vw8 w8 ⟨zw8, gw8, Ow8, Aw8, qw8, rw8⟩
 have z23 := Aw8.size
 refine qm rfl<|sd_done<|sw_ret ?_
 have X24 := ((((X12.kz K5).trans G6).trans G7).ka Aw8 (tk1 (pv_0 (A := (fun x => w.heap.size ≤ x)) f6_r0_s)))
 cases hm
 refine ⟨_, _, rfl, res_1 rfl (rv_tmp rfl), ?_⟩
 exact ⟨vw8, zw8, gw8, rfl, Ow8, ⟨(pv_app (A := (fun x => w.heap.size ≤ x)) rw8 (pv_0 (A := (fun x => w.heap.size ≤ x)) f6_r0_s))⟩, X24⟩
theorem ref10_listed_w (p0 : TScheme) (p1 : List (List (List Int))) (p2 : Int) (p3 : Int) (p4 : Int) (p5 : Int) (vp1 : Value) (zp1 gp1 op1 : Nat) (Fp1 : List Nat) (r : List Int) (hm : ref10_listed p0 p1 p2 p3 p4 p5 = some r) (w : World) (hp1 : RdD (rpSd (rpSl 1 ic)) w zp1 gp1 op1 vp1 Fp1 p1)  :
    Calls Try.prog 84 [.agg (TScheme.cs p0).toArray, vp1, .int .i64 p2, .int .i64 p3, .int .i64 p4, .int .i64 p5].toArray w fun e w' => ∃ v, e = .returned v ∧ (∃ (ur0_s : Value) (zr0_s : Nat) (gr0_s : Nat), v = ur0_s ∧ Own w' zr0_s gr0_s 3 1 ur0_s (r.map ic) ∧ Hdn (zr0_s = 0 ∨ w.heap.size ≤ gr0_s) ∧ Gr w w') :=
  ref10_listed_i FUEL p0 p1 p2 p3 p4 p5 vp1 zp1 gp1 op1 Fp1 r hm w hp1
theorem ref10_WitnessOf_w {p0 p1 r} (hm : ref10_WitnessOf p0 p1 = some r) {w : World} :
    Calls Try.prog 44 [.agg (TScheme.cs p0).toArray, .int .i64 p1].toArray w fun e w' => ∃ v, e = .returned v ∧ (∃ ur0_s zr0_s gr0_s, v = ur0_s ∧ Own w' zr0_s gr0_s 3 1 ur0_s (r.map ic) ∧ Hdn (zr0_s = 0 ∨ w.heap.size ≤ gr0_s) ∧ Gr w w') := by
 unfold ref10_WitnessOf at hm
 refine calls_of_sw 23 Try.func44 rfl rfl rfl<|qs 2 rfl<|qe rfl (ev_box (cs := TScheme.cs p0) rfl rfl) ?_
 rintro _ w1 ⟨b1, rfl, hbw1, Bw1, G1⟩
 have z1 := G1.size
 have lt2 := Bw1.lt
 refine qm rfl<|qd 3 rfl<|qv rfl (vv_loadW agg_26 rfl Bw1 rfl) ?_
 obtain ⟨x1, hx1, hm⟩ := bnd hm
 refine qe rfl (eC en_42 rfl (ref10_TablesOf_w p0 _ hx1 _)) ?_
 rintro u2_r0_s w2 ⟨_, z2_r0_s, g2_r0_s, F2_r0_s, rfl, O2_r0_s, f2_r0_s, p2_r0_s, G2⟩
 have z3 := G2.size
 have fl4 := O2_r0_s.flt
 have lt5 := O2_r0_s.lth
 refine qm rfl<|qd 9 rfl ?_
 have B6 := (Bw1.gr G2)
 refine qv rfl (vv_loadW agg_26 rfl B6 rfl)<|qm rfl<|qm rfl ?_
 obtain ⟨x2, hx2, hm⟩ := bnd hm
 refine qe rfl (eC en_41 rfl (ref10_greatest_w p0 x1 p1 _ _ _ _ _ _ hx2 _ (OwnD.rd O2_r0_s))) ?_
 rintro _ w3 ⟨rfl, G3⟩
 have z7 := G3.size
 refine qm rfl<|qm rfl<|qm rfl<|qm rfl<|qm rfl<|sd_done<|sw_seq ?_
 refine qg 7 rfl ?_
 have B8 := (B6.gr G3)
 refine qv rfl (vv_loadW agg_26 rfl B8 rfl)<|qm rfl<|qv rfl (vv_fieldAddr fa_26_1 rfl)<|qv rfl (vv_load1 (v := .int .i64 p0.Depth) one_3 rfl B8 rfl)<|qm rfl ?_
 have B9 := (O2_r0_s.gr G3)
 obtain ⟨x3, hx3, hm⟩ := bnd hm
 refine qe rfl (eC en_84 rfl (ref10_listed_w p0 x1 1 0 p0.Depth x2.2 _ _ _ _ _ _ hx3 _ (OwnD.rd B9))) ?_
 rintro u4_r0_s w4 ⟨_, z4_r0_s, g4_r0_s, rfl, O4_r0_s, f4_r0_s, G4⟩
 have z10 := G4.size
 have lt11 := O4_r0_s.lth
 refine qm rfl<|sd_done<|sw_ret ?_
 have X12 := (((((Gr.refl w).trans G1).trans G2).trans G3).trans G4)
 cases hm
 refine ⟨_, _, rfl, res_1 rfl (rv_tmp rfl), ?_⟩
 exact ⟨u4_r0_s, z4_r0_s, g4_r0_s, rfl, O4_r0_s, ⟨(pv_0 (A := (fun x => w.heap.size ≤ x)) f4_r0_s)⟩, X12⟩
theorem ref10_Witness_w {p0 p1 r} (hm : ref10_Witness p0 p1 = some r) {w : World} :
    Calls Try.prog 17 [.agg (TScheme.cs p0).toArray, .int .i64 p1].toArray w fun e w' => ∃ v, e = .returned v ∧ (∃ ur0_s zr0_s gr0_s, v = .tuple [ur0_s, .int .i64 r.2].toArray ∧ Own w' zr0_s gr0_s 3 1 ur0_s (r.1.map ic) ∧ Hdn (zr0_s = 0 ∨ w.heap.size ≤ gr0_s) ∧ Gr w w') := by
 unfold ref10_Witness at hm
 refine calls_of_sw 16 Try.func17 rfl rfl rfl<|qs 3 rfl<|qe rfl (ev_box (cs := TScheme.cs p0) rfl rfl) ?_
 rintro _ w1 ⟨b1, rfl, hbw1, Bw1, G1⟩
 have z1 := G1.size
 have lt2 := Bw1.lt
 refine qm rfl<|qm rfl<|sd_done<|sw_seq<|qs 4 rfl<|qv rfl (vv_loadW agg_26 rfl Bw1 rfl) ?_
 refine qm rfl ?_
 obtain ⟨x1, hx1, hm⟩ := bnd hm
 refine qe rfl (eC en_40 rfl (ref10_asked_w hx1)) ?_
 rintro _ w2 ⟨rfl, G2⟩
 have z3 := G2.size
 refine qm rfl<|qd 2 rfl<|qm rfl<|qv rfl (vv_neq (a := x1) (b := 0) rfl rfl)<|sd_done ?_
 refine sw_cond rfl (fun c1 => ?_) (fun c1 => ?_)
 · replace hm := iT c1 hm
   refine qs 3 rfl<|qm rfl<|qm rfl<|qm rfl<|sd_done<|sw_ret ?_
   refine then_r ?_
   have X4 := (((Gr.refl w).trans G1).trans G2)
   cases hm
   refine ⟨_, _, rfl, res_2 rfl (rv_tmp rfl) (rv_tmp rfl), ?_⟩
   exact ⟨(.slice none 0 0), 0, 0, rfl, (own_nil _ 0 3 1), ⟨.inl rfl⟩, X4⟩
 replace hm := iF c1 hm
 refine qu<|qs 5 rfl ?_
 have B5 := (Bw1.gr G2)
 refine qv rfl (vv_loadW agg_26 rfl B5 rfl)<|qm rfl ?_
 obtain ⟨x2, hx2, hm⟩ := bnd hm
 refine qe rfl (eC en_44 rfl (ref10_WitnessOf_w hx2)) ?_
 rintro u3_r0_s w3 ⟨_, z3_r0_s, g3_r0_s, rfl, O3_r0_s, f3_r0_s, G3⟩
 have z6 := G3.size
 have lt7 := O3_r0_s.lth
 refine qm rfl<|qm rfl<|sd_done<|sw_ret ?_
 have X8 := ((((Gr.refl w).trans G1).trans G2).trans G3)
 cases hm
 refine ⟨_, _, rfl, res_2 rfl (rv_tmp rfl) (rv_tmp rfl), ?_⟩
 exact ⟨u3_r0_s, z3_r0_s, g3_r0_s, rfl, O3_r0_s, ⟨(pv_0 (A := (fun x => w.heap.size ≤ x)) f3_r0_s)⟩, X8⟩
end Go.Proofs.Ytopkalcefepilaa.Mx
