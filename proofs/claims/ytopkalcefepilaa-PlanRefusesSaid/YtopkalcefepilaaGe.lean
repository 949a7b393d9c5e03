/- Walks that follow mirrors: Ge. Printed by mx.py. -/
import Derived.Test.YtopkalcefepilaaGc
import Derived.Test.YtopkalcefepilaaZd
set_option linter.unusedVariables false
set_option linter.unusedSimpArgs false
set_option maxRecDepth 100000
set_option maxHeartbeats 2000000
namespace Go.Proofs.Ytopkalcefepilaa.Mx
open Go Go.RowKit Go.Sx
theorem fa_52_0 : FA Try.prog 52 0 0 := fun _ _ _ => by kernel_rfl
theorem en_60 : En Try.prog 60 := fun _ _ => by kernel_rfl
theorem en_18 : En Try.prog 18 := fun _ _ => by kernel_rfl
theorem ref03_SameInts_w {p0 p1 vp0 zp0 gp0 op0 vp1 zp1 gp1 op1 r} (hm : ref03_SameInts p0 p1 = some r) {w : World} (hp0 : Rd w zp0 gp0 op0 1 vp0 (p0.map ic)) (hp1 : Rd w zp1 gp1 op1 1 vp1 (p1.map ic)) :
    Calls Try.prog 18 [vp0, vp1].toArray w fun e w' => ∃ v, e = .returned v ∧ (v = .bool r ∧ Gr w w') := by
 have lt1 := hp0.lth
 have lt2 := hp1.lth
 unfold ref03_SameInts at hm
 refine calls_of_sw 26 Try.func18 rfl rfl rfl<|qs 1 rfl<|qm rfl<|sd_done<|sw_seq<|sw_seq ?_
 refine qg 5 rfl<|qm rfl<|qv rfl (vv_lenT (l := p0) (c := ic) Try.underlying32 rfl hp0)<|qm rfl<|qv rfl (vv_lenT (l := p1) (c := ic) Try.underlying32 rfl hp1)<|qv rfl (vv_neq (a := (p0.length : Int)) (b := (p1.length : Int)) rfl rfl)<|sd_done ?_
 refine sw_cond rfl (fun c1 => ?_) (fun c1 => ?_)
 · replace hm := iT c1 hm
   refine qs 1 rfl<|qm rfl<|qb ?_
   cases hm
   refine ⟨_, _, rfl, res_1 rfl (rv_tmp rfl), ?_⟩
   exact ⟨rfl, (Gr.refl w)⟩
 replace hm := iF c1 hm
 refine qu<|sw_seq<|qs 1 rfl<|qm rfl<|sd_done ?_
 refine sw_block<|sw_loopD (α := Nat × Int) ([4, 5] ++ rg 11 15) (fun ⟨n1, a2⟩ => [(4, .bool false), (5, .int .i64 a2)]) (fun ⟨n1, a2⟩ wr => (fixN (ref03_SameInts_L1 p0 p1) n1 a2 = some r) ∧ Kz [] w wr) (fun ⟨n1, a2⟩ => n1) ⟨FUEL, 0⟩ ?_ ?_ ?_
 · exact sbq
 · exact ⟨hm, Kz.refl _ _⟩
 clear hm; rintro ⟨n1, a2⟩ w1 ⟨hm, K1⟩
 have z3 := K1.size
 have hb := fix_succ hm; clear hm; obtain ⟨n1, rfl, hm⟩ := hb
 generalize hrec1 : fixN (ref03_SameInts_L1 p0 p1) n1 = rec1 at hm
 unfold ref03_SameInts_L1 at hm
 try dsimp only at hm
 refine sw_seq<|qs 4 rfl<|qm rfl<|qm rfl ?_
 have B4 := (hp0.kz K1)
 refine qv rfl (vv_lenT (l := p0) (c := ic) Try.underlying32 rfl B4)<|qv rfl (vv_lss (a := a2) (b := (p0.length : Int)) rfl rfl)<|sd_done<|cnF rfl (fun c2 => ?_) (fun c2 => ?_)
 · replace hm := iF c2 hm
   refine sw_exit<|then_x<|then_x<|block_x<|then_n<|qs 1 rfl ?_
   refine qm rfl<|sd_done<|sw_ret ?_
   have X9 := ((Gr.refl w).kz K1)
   cases hm
   refine ⟨_, _, rfl, res_1 rfl (rv_tmp rfl), ?_⟩
   exact ⟨rfl, X9⟩
 replace hm := iT c2 hm
 refine qu<|sw_seq<|sw_block<|sw_seq<|dw [([])] [] (.leaf [(0,10),(1,10),(2,10),(3,10),(4,10),(5,10),(6,10),(7,10),(8,10)]) ?_
 intro w2 G2 zw2
 refine sdz_leaf<|dm 0 rfl rfl<|dm 0 rfl rfl ?_
 obtain ⟨y3, hy3, hm⟩ := bnd hm
 have B5 := (B4.gr G2)
 refine dh 0 rfl rfl (fun w hS => vv_ixT (i := a2) Try.underlying32 (one_3).siz rfl (Rd.kp B5 hS) rfl hy3)<|dh 0 rfl rfl (fun w hS => vv_el1T (q := 0) (u := .int .i64 y3) one_3 rfl (Rd.kp B5 hS) hy3 (by first | rfl | omega) rfl)<|dm 0 rfl rfl<|dm 0 rfl rfl ?_
 obtain ⟨y4, hy4, hm⟩ := bnd hm
 have B6 := ((hp1.kz K1).gr G2)
 refine dh 0 rfl rfl (fun w hS => vv_ixT (i := a2) Try.underlying32 (one_3).siz rfl (Rd.kp B6 hS) rfl hy4)<|dh 0 rfl rfl (fun w hS => vv_el1T (q := 0) (u := .int .i64 y4) one_3 rfl (Rd.kp B6 hS) hy4 (by first | rfl | omega) rfl)<|dh 0 rfl rfl (fun w hS => vv_neq (a := y3) (b := y4) rfl rfl)<|sd_done<|sw_cond rfl (fun c3 => ?_) (fun c3 => ?_)
 · replace hm := iT c3 hm
   refine qs 1 rfl<|qm rfl<|sd_done<|sw_ret<|block_r<|then_r ?_
   refine then_r<|block_r<|then_r ?_
   have X7 := (((Gr.refl w).kz K1).trans G2)
   cases hm
   refine ⟨_, _, rfl, res_1 rfl (rv_tmp rfl), ?_⟩
   exact ⟨rfl, X7⟩
 replace hm := iF c3 hm
 refine sw_skip<|block_n<|then_n<|qg 3 rfl<|qm rfl<|qv rfl (vv_add (k := .i64) (a := a2) (b := 1) rfl rfl)<|qm rfl ?_
 refine sd_nil ?_
 have K_8 : Kz [] w w2 := (K1.gr G2)
 subst hrec1
 exact ⟨rfl, ⟨n1, w64 (a2 + 1)⟩, sbq, ⟨hm, K_8⟩, Nat.lt_succ_self _⟩
theorem ref10_SameNumbers_w {p0 p1 vp0_7 zp0_7 gp0_7 op0_7 vp1_7 zp1_7 gp1_7 op1_7 r} (hm : ref10_SameNumbers p0 p1 = some r) {w : World} (hp0_7 : Rd w zp0_7 gp0_7 op0_7 1 vp0_7 (p0.Witness.map ic)) (hp1_7 : Rd w zp1_7 gp1_7 op1_7 1 vp1_7 (p1.Witness.map ic)) :
    Calls Try.prog 60 [.agg (TChoice.cs p0 vp0_7).toArray, .agg (TChoice.cs p1 vp1_7).toArray].toArray w fun e w' => ∃ v, e = .returned v ∧ (v = .bool r ∧ Gr w w') := by
 have lt1 := hp0_7.lth
 have lt2 := hp1_7.lth
 unfold ref10_SameNumbers at hm
 refine calls_of_sw 52 Try.func60 rfl rfl rfl<|qs 3 rfl<|qe rfl (ev_box (cs := TChoice.cs p0 vp0_7) rfl rfl) ?_
 rintro _ w1 ⟨b1, rfl, hbw1, Bw1, G1⟩
 have z3 := G1.size
 have lt4 := Bw1.lt
 refine qe rfl (ev_box (cs := TChoice.cs p1 vp1_7) rfl rfl) ?_
 rintro _ w2 ⟨b2, rfl, hbw2, Bw2, G2⟩
 have z5 := G2.size
 have lt6 := Bw2.lt
 refine qm rfl<|qd 48 rfl<|qv rfl (vv_fieldAddr fa_52_0 rfl) ?_
 have B7 := (Bw1.gr G2)
 refine qv rfl (vv_load1 (v := bv p0.Kind) one_5 rfl B7 rfl)<|qv rfl (vv_fieldAddr fa_52_0 rfl)<|qv rfl (vv_load1 (v := bv p1.Kind) one_5 rfl Bw2 rfl)<|qv rfl (vv_eqlB (p := p0.Kind) (q := p1.Kind) rfl rfl)<|qpF rfl (vv_move rfl) (fun c1 => ?_) (fun c1 => ?_)
 · replace hm := iF c1 hm
   refine qk rfl<|qk rfl<|qk rfl<|qk rfl<|qk rfl<|qm rfl<|qm rfl ?_
   refine qk rfl<|qk rfl<|qk rfl<|qk rfl<|qk rfl<|qm rfl<|qm rfl ?_
   refine qk rfl<|qk rfl<|qk rfl<|qk rfl<|qk rfl<|qm rfl<|qm rfl ?_
   refine qk rfl<|qk rfl<|qk rfl<|qk rfl<|qk rfl<|qm rfl<|qm rfl ?_
   refine qk rfl<|qk rfl<|qk rfl<|qk rfl<|qk rfl<|qm rfl<|qm rfl ?_
   refine qk rfl<|qk rfl<|qk rfl<|qk rfl<|qk rfl<|qm rfl<|qm rfl ?_
   refine sd_done<|sw_ret ?_
   have Y1 := Gr.trans G1 G2
   have X14 := ((Gr.refl w).trans Y1)
   cases hm
   refine ⟨_, _, rfl, res_1 rfl (rv_tmp rfl), ?_⟩
   exact ⟨rfl, X14⟩
 replace hm := iT c1 hm
 refine qv rfl (vv_fieldAddr fa_52_1 rfl)<|qv rfl (vv_load1 (v := .bool p0.Fits) one_4 rfl B7 rfl)<|qv rfl (vv_fieldAddr fa_52_1 rfl)<|qv rfl (vv_load1 (v := .bool p1.Fits) one_4 rfl Bw2 rfl)<|qv rfl (vv_eqlL Try.underlying4 rfl rfl)<|qm rfl<|qpF rfl (vv_move rfl) (fun c2 => ?_) (fun c2 => ?_)
 · replace hm := cnd_f c2 hm
   refine qk rfl<|qk rfl<|qk rfl<|qk rfl<|qk rfl<|qm rfl<|qm rfl ?_
   refine qk rfl<|qk rfl<|qk rfl<|qk rfl<|qk rfl<|qm rfl<|qm rfl ?_
   refine qk rfl<|qk rfl<|qk rfl<|qk rfl<|qk rfl<|qm rfl<|qm rfl ?_
   refine qk rfl<|qk rfl<|qk rfl<|qk rfl<|qk rfl<|qm rfl<|qm rfl ?_
   refine qk rfl<|qk rfl<|qk rfl<|qk rfl<|qk rfl<|qm rfl<|qm rfl ?_
   refine sd_done<|sw_ret ?_
   have Y2 := Gr.trans G1 G2
   have X13 := ((Gr.refl w).trans Y2)
   cases hm
   refine ⟨_, _, rfl, res_1 rfl (rv_tmp rfl), ?_⟩
   exact ⟨rfl, X13⟩
 replace hm := cnd_t c2 hm
 refine qv rfl (vv_fieldAddr fa_52_2 rfl)<|qv rfl (vv_load1 (v := .int .i64 p0.Items) one_3 rfl B7 rfl)<|qv rfl (vv_fieldAddr fa_52_2 rfl)<|qv rfl (vv_load1 (v := .int .i64 p1.Items) one_3 rfl Bw2 rfl)<|qv rfl (vv_eql (a := p0.Items) (b := p1.Items) rfl rfl)<|qm rfl<|qpF rfl (vv_move rfl) (fun c3 => ?_) (fun c3 => ?_)
 · replace hm := iF c3 hm
   refine qk rfl<|qk rfl<|qk rfl<|qk rfl<|qk rfl<|qm rfl<|qm rfl ?_
   refine qk rfl<|qk rfl<|qk rfl<|qk rfl<|qk rfl<|qm rfl<|qm rfl ?_
   refine qk rfl<|qk rfl<|qk rfl<|qk rfl<|qk rfl<|qm rfl<|qm rfl ?_
   refine qk rfl<|qk rfl<|qk rfl<|qk rfl<|qk rfl<|qm rfl<|qm rfl ?_
   refine sd_done<|sw_ret ?_
   have Y3 := Gr.trans G1 G2
   have X12 := ((Gr.refl w).trans Y3)
   cases hm
   refine ⟨_, _, rfl, res_1 rfl (rv_tmp rfl), ?_⟩
   exact ⟨rfl, X12⟩
 replace hm := iT c3 hm
 refine qv rfl (vv_fieldAddr fa_52_3 rfl)<|qv rfl (vv_load1 (v := .int .i64 p0.Points) one_3 rfl B7 rfl)<|qv rfl (vv_fieldAddr fa_52_3 rfl)<|qv rfl (vv_load1 (v := .int .i64 p1.Points) one_3 rfl Bw2 rfl)<|qv rfl (vv_eql (a := p0.Points) (b := p1.Points) rfl rfl)<|qm rfl<|qpF rfl (vv_move rfl) (fun c4 => ?_) (fun c4 => ?_)
 · replace hm := iF c4 hm
   refine qk rfl<|qk rfl<|qk rfl<|qk rfl<|qk rfl<|qm rfl<|qm rfl ?_
   refine qk rfl<|qk rfl<|qk rfl<|qk rfl<|qk rfl<|qm rfl<|qm rfl ?_
   refine qk rfl<|qk rfl<|qk rfl<|qk rfl<|qk rfl<|qm rfl<|qm rfl ?_
   refine sd_done<|sw_ret ?_
   have Y4 := Gr.trans G1 G2
   have X11 := ((Gr.refl w).trans Y4)
   cases hm
   refine ⟨_, _, rfl, res_1 rfl (rv_tmp rfl), ?_⟩
   exact ⟨rfl, X11⟩
 replace hm := iT c4 hm
 refine qv rfl (vv_fieldAddr fa_52_4 rfl)<|qv rfl (vv_load1 (v := .int .i64 p0.Header) one_3 rfl B7 rfl)<|qv rfl (vv_fieldAddr fa_52_4 rfl)<|qv rfl (vv_load1 (v := .int .i64 p1.Header) one_3 rfl Bw2 rfl)<|qv rfl (vv_eql (a := p0.Header) (b := p1.Header) rfl rfl)<|qm rfl<|qpF rfl (vv_move rfl) (fun c5 => ?_) (fun c5 => ?_)
 · replace hm := iF c5 hm
   refine qk rfl<|qk rfl<|qk rfl<|qk rfl<|qk rfl<|qm rfl<|qm rfl ?_
   refine qk rfl<|qk rfl<|qk rfl<|qk rfl<|qk rfl<|qm rfl<|qm rfl ?_
   refine sd_done<|sw_ret ?_
   have Y5 := Gr.trans G1 G2
   have X10 := ((Gr.refl w).trans Y5)
   cases hm
   refine ⟨_, _, rfl, res_1 rfl (rv_tmp rfl), ?_⟩
   exact ⟨rfl, X10⟩
 replace hm := iT c5 hm
 refine qv rfl (vv_fieldAddr fa_52_5 rfl)<|qv rfl (vv_load1 (v := .int .i64 p0.Storage) one_3 rfl B7 rfl)<|qv rfl (vv_fieldAddr fa_52_5 rfl)<|qv rfl (vv_load1 (v := .int .i64 p1.Storage) one_3 rfl Bw2 rfl)<|qv rfl (vv_eql (a := p0.Storage) (b := p1.Storage) rfl rfl)<|qm rfl<|qpF rfl (vv_move rfl) (fun c6 => ?_) (fun c6 => ?_)
 · replace hm := iF c6 hm
   refine qk rfl<|qk rfl<|qk rfl<|qk rfl<|qk rfl<|qm rfl<|qm rfl ?_
   refine sd_done<|sw_ret ?_
   have Y6 := Gr.trans G1 G2
   have X9 := ((Gr.refl w).trans Y6)
   cases hm
   refine ⟨_, _, rfl, res_1 rfl (rv_tmp rfl), ?_⟩
   exact ⟨rfl, X9⟩
 replace hm := iT c6 hm
 refine qv rfl (vv_fieldAddr fa_52_6 rfl)<|qv rfl (vv_load1 (v := .int .i64 p0.Cost) one_3 rfl B7 rfl)<|qv rfl (vv_fieldAddr fa_52_6 rfl)<|qv rfl (vv_load1 (v := .int .i64 p1.Cost) one_3 rfl Bw2 rfl)<|qv rfl (vv_eql (a := p0.Cost) (b := p1.Cost) rfl rfl)<|qm rfl<|qm rfl ?_
 refine sd_done<|sw_ret ?_
 have Y7 := Gr.trans G1 G2
 have X8 := ((Gr.refl w).trans Y7)
 cases hm
 refine ⟨_, _, rfl, res_1 rfl (rv_tmp rfl), ?_⟩
 exact ⟨rfl, X8⟩
theorem ref10_SameChoice_w {p0 p1 vp0_7 zp0_7 gp0_7 op0_7 vp1_7 zp1_7 gp1_7 op1_7 r} (hm : ref10_SameChoice p0 p1 = some r) {w : World} (hp0_7 : Rd w zp0_7 gp0_7 op0_7 1 vp0_7 (p0.Witness.map ic)) (hp1_7 : Rd w zp1_7 gp1_7 op1_7 1 vp1_7 (p1.Witness.map ic)) :
    Calls Try.prog 31 [.agg (TChoice.cs p0 vp0_7).toArray, .agg (TChoice.cs p1 vp1_7).toArray].toArray w fun e w' => ∃ v, e = .returned v ∧ (v = .bool r ∧ Gr w w') := by
 have lt1 := hp0_7.lth
 have lt2 := hp1_7.lth
 unfold ref10_SameChoice at hm
 refine calls_of_sw 15 Try.func31 rfl rfl rfl<|qs 3 rfl<|qe rfl (ev_box (cs := TChoice.cs p0 vp0_7) rfl rfl) ?_
 rintro _ w1 ⟨b1, rfl, hbw1, Bw1, G1⟩
 have z3 := G1.size
 have lt4 := Bw1.lt
 refine qe rfl (ev_box (cs := TChoice.cs p1 vp1_7) rfl rfl) ?_
 rintro _ w2 ⟨b2, rfl, hbw2, Bw2, G2⟩
 have z5 := G2.size
 have lt6 := Bw2.lt
 refine qm rfl<|qd 11 rfl ?_
 have B7 := (Bw1.gr G2)
 refine qv rfl (vv_loadW agg_52 rfl B7 rfl)<|qv rfl (vv_loadW agg_52 rfl Bw2 rfl) ?_
 have Y1 := Gr.trans G1 G2
 have B8 := (hp0_7.gr Y1)
 have B9 := (hp1_7.gr Y1)
 obtain ⟨x1, hx1, hm⟩ := bnd hm
 refine qe rfl (eC en_60 rfl (ref10_SameNumbers_w hx1 B8 B9)) ?_
 rintro _ w3 ⟨rfl, G3⟩
 have z10 := G3.size
 refine qpF rfl (vv_move rfl) (fun c1 => ?_) (fun c1 => ?_)
 · replace hm := cnd_f c1 hm
   refine qk rfl<|qk rfl<|qk rfl<|qk rfl<|qk rfl<|qm rfl<|qm rfl ?_
   refine sd_done<|sw_ret ?_
   have X17 := (((Gr.refl w).trans Y1).trans G3)
   cases hm
   refine ⟨_, _, rfl, res_1 rfl (rv_tmp rfl), ?_⟩
   exact ⟨rfl, X17⟩
 replace hm := cnd_t c1 hm
 refine qv rfl (vv_fieldAddr fa_52_7 rfl) ?_
 have B11 := (B7.gr G3)
 refine qv rfl (vv_load1 (v := vp0_7) one_32 rfl B11 rfl)<|qv rfl (vv_fieldAddr fa_52_7 rfl) ?_
 have B12 := (Bw2.gr G3)
 refine qv rfl (vv_load1 (v := vp1_7) one_32 rfl B12 rfl) ?_
 have B13 := (B8.gr G3)
 have B14 := (B9.gr G3)
 obtain ⟨x2, hx2, hm⟩ := bnd hm
 refine qe rfl (eC en_18 rfl (ref03_SameInts_w hx2 B13 B14)) ?_
 rintro _ w4 ⟨rfl, G4⟩
 have z15 := G4.size
 refine qm rfl<|qm rfl<|sd_done<|sw_ret ?_
 have X16 := ((((Gr.refl w).trans Y1).trans G3).trans G4)
 cases hm
 refine ⟨_, _, rfl, res_1 rfl (rv_tmp rfl), ?_⟩
 exact ⟨rfl, X16⟩
end Go.Proofs.Ytopkalcefepilaa.Mx
