/- Walks that follow mirrors: Ma. Printed by mx.py. -/
import Derived.Test.YtopkalcefepilaaGw
import Derived.Test.YtopkalcefepilaaZd
set_option linter.unusedVariables false
set_option linter.unusedSimpArgs false
set_option maxRecDepth 100000
set_option maxHeartbeats 2000000
namespace Go.Proofs.Ytopkalcefepilaa.Mx
open Go Go.RowKit Go.Sx
theorem en_56 : En Try.prog 56 := fun _ _ => by kernel_rfl
theorem en_92 : En Try.prog 92 := fun _ _ => by kernel_rfl
theorem en_135 : En Try.prog 135 := fun _ _ => by kernel_rfl
theorem en_136 : En Try.prog 136 := fun _ _ => by kernel_rfl
theorem en_115 : En Try.prog 115 := fun _ _ => by kernel_rfl
theorem en_93 : En Try.prog 93 := fun _ _ => by kernel_rfl
theorem en_137 : En Try.prog 137 := fun _ _ => by kernel_rfl
theorem en_144 : En Try.prog 144 := fun _ _ => by kernel_rfl
theorem en_145 : En Try.prog 145 := fun _ _ => by kernel_rfl
theorem en_149 : En Try.prog 149 := fun _ _ => by kernel_rfl
theorem en_146 : En Try.prog 146 := fun _ _ => by kernel_rfl
theorem en_147 : En Try.prog 147 := fun _ _ => by kernel_rfl
theorem en_138 : En Try.prog 138 := fun _ _ => by kernel_rfl
theorem en_116 : En Try.prog 116 := fun _ _ => by kernel_rfl
theorem en_94 : En Try.prog 94 := fun _ _ => by kernel_rfl
theorem en_15 : En Try.prog 15 := fun _ _ => by kernel_rfl
theorem en_57 : En Try.prog 57 := fun _ _ => by kernel_rfl
theorem en_26 : En Try.prog 26 := fun _ _ => by kernel_rfl
theorem en_58 : En Try.prog 58 := fun _ _ => by kernel_rfl
theorem en_28 : En Try.prog 28 := fun _ _ => by kernel_rfl
theorem en_30 : En Try.prog 30 := fun _ _ => by kernel_rfl
theorem en_32 : En Try.prog 32 := fun _ _ => by kernel_rfl
theorem ref10_ValidNeed_w {p0 r} (hm : ref10_ValidNeed p0 = some r) {w : World} :
    Calls Try.prog 56 [.agg (TNeed.cs p0).toArray].toArray w fun e w' => ∃ v, e = .returned v ∧ (v = .bool r ∧ Gr w w') := by
 unfold ref10_ValidNeed at hm
 refine calls_of_sw 62 Try.func56 rfl rfl rfl<|qs 2 rfl<|qe rfl (ev_box (cs := TNeed.cs p0) rfl rfl) ?_
 rintro _ w1 ⟨b1, rfl, hbw1, Bw1, G1⟩
 have z1 := G1.size
 have lt2 := Bw1.lt
 refine qm rfl<|sd_done<|sw_seq ?_
 have X3 := ((Gr.refl w).trans G1)
 refine qj (β := Bool) (rg 3 31) (fun a1 => [(33, .bool a1)]) (fun a1 wr => (ref10_ValidNeed_J1 p0 a1 = some r) ∧ Kz [] w1 wr) ?_ ?_
 · refine dw [([])] [] (.leaf [(0,10),(1,10),(2,10),(3,10),(4,10),(5,10),(6,10),(7,10),(8,10),(9,10),(10,10),(11,10),(12,10),(13,10),(14,10),(15,10),(16,10),(17,10),(18,0),(19,10),(20,10),(21,10),(22,10),(23,10),(24,10),(25,10),(26,10),(27,10),(28,10),(29,10),(30,10)]) ?_
   intro w3 G3 zw3
   refine sdz_leaf<|dh 0 rfl rfl (fun w hS => vv_fieldAddr fa_50_0 rfl) ?_
   have B13 := (Bw1.gr G3)
   refine dh 0 rfl rfl (fun w hS => vv_load1 (v := .int .i64 p0.Depth) one_3 rfl (Bx.kp B13 hS) rfl)<|dh 0 rfl rfl (fun w hS => vv_lss (a := p0.Depth) (b := 0) rfl rfl)<|qq 0 rfl rfl (Kp.refl ([]) w3) (fun w hS => vv_move rfl) (fun c7 => ?_) (fun c7 => ?_)
   · replace hm := iT c7 hm
     refine dx 0 rfl rfl<|dx 0 rfl rfl<|dx 0 rfl rfl<|dm 0 rfl rfl<|dm 0 rfl rfl<|dx 0 rfl rfl<|dx 0 rfl rfl ?_
     refine dx 0 rfl rfl<|dm 0 rfl rfl<|dm 0 rfl rfl<|dx 0 rfl rfl<|dx 0 rfl rfl<|dx 0 rfl rfl<|dx 0 rfl rfl ?_
     refine qy rfl<|dx 0 rfl rfl<|dm 0 rfl rfl<|dm 0 rfl rfl<|dx 0 rfl rfl<|dx 0 rfl rfl<|dx 0 rfl rfl ?_
     refine dm 0 rfl rfl<|dm 0 rfl rfl<|dx 0 rfl rfl<|dx 0 rfl rfl<|dx 0 rfl rfl<|dm 0 rfl rfl<|sd_nil ?_
     exact ⟨rfl, true, sbq, hm, (kz0.gr G3)⟩
   replace hm := iF c7 hm
   refine dh 0 rfl rfl (fun w hS => vv_fieldAddr fa_50_0 rfl)<|dh 0 rfl rfl (fun w hS => vv_load1 (v := .int .i64 p0.Depth) one_3 rfl (Bx.kp B13 hS) rfl)<|dh 0 rfl rfl (fun w hS => vv_gtr (a := p0.Depth) (b := 6) rfl rfl)<|dm 0 rfl rfl<|qq 0 rfl rfl (Kp.refl ([]) w3) (fun w hS => vv_move rfl) (fun c8 => ?_) (fun c8 => ?_)
   · replace hm := iT c8 hm
     refine dx 0 rfl rfl<|dx 0 rfl rfl<|dx 0 rfl rfl<|dm 0 rfl rfl<|dm 0 rfl rfl<|dx 0 rfl rfl<|dx 0 rfl rfl ?_
     refine dx 0 rfl rfl<|dx 0 rfl rfl<|qy rfl<|dx 0 rfl rfl<|dm 0 rfl rfl<|dm 0 rfl rfl<|dx 0 rfl rfl ?_
     refine dx 0 rfl rfl<|dx 0 rfl rfl<|dm 0 rfl rfl<|dm 0 rfl rfl<|dx 0 rfl rfl<|dx 0 rfl rfl<|dx 0 rfl rfl ?_
     refine dm 0 rfl rfl<|sd_nil ?_
     exact ⟨rfl, true, sbq, hm, (kz0.gr G3)⟩
   replace hm := iF c8 hm
   refine dh 0 rfl rfl (fun w hS => vv_fieldAddr fa_50_1 rfl)<|dh 0 rfl rfl (fun w hS => vv_load1 (v := .int .i64 p0.Revoked) one_3 rfl (Bx.kp B13 hS) rfl)<|dh 0 rfl rfl (fun w hS => vv_lss (a := p0.Revoked) (b := 0) rfl rfl)<|dm 0 rfl rfl<|qq 0 rfl rfl (Kp.refl ([]) w3) (fun w hS => vv_move rfl) (fun c9 => ?_) (fun c9 => ?_)
   · replace hm := iT c9 hm
     refine dx 0 rfl rfl<|dx 0 rfl rfl<|dx 0 rfl rfl<|dx 0 rfl rfl<|qy rfl<|dx 0 rfl rfl<|dm 0 rfl rfl ?_
     refine dm 0 rfl rfl<|dx 0 rfl rfl<|dx 0 rfl rfl<|dx 0 rfl rfl<|dm 0 rfl rfl<|dm 0 rfl rfl<|dx 0 rfl rfl ?_
     refine dx 0 rfl rfl<|dx 0 rfl rfl<|dm 0 rfl rfl<|sd_nil ?_
     exact ⟨rfl, true, sbq, hm, (kz0.gr G3)⟩
   replace hm := iF c9 hm
   refine dh 0 rfl rfl (fun w hS => vv_fieldAddr fa_50_1 rfl)<|dh 0 rfl rfl (fun w hS => vv_load1 (v := .int .i64 p0.Revoked) one_3 rfl (Bx.kp B13 hS) rfl)<|dh 0 rfl rfl (fun w hS => vv_fieldAddr fa_50_0 rfl)<|dh 0 rfl rfl (fun w hS => vv_load1 (v := .int .i64 p0.Depth) one_3 rfl (Bx.kp B13 hS) rfl) ?_
   obtain ⟨x2, hx2, hm⟩ := bnd hm
   refine qz [] rfl (eC en_77 rfl (ref03_Receivers_w hx2)) ⟨fun _ => tk0, trivial⟩ ?_
   rintro _ w4 ⟨rfl, G4⟩
   have z17 := G4.size
   refine kG G4 ?_
   have S18 := ((Kp.refl ([]) w3).gr G4)
   refine qh 0 rfl rfl S18 (fun w hS => vv_gtr (a := p0.Revoked) (b := x2) rfl rfl)<|dn 0 rfl rfl S18<|qq 0 rfl rfl S18 (fun w hS => vv_move rfl) (fun c10 => ?_) (fun c10 => ?_)
   · replace hm := iT c10 hm
     refine qx 0 rfl rfl S18<|qx 0 rfl rfl S18<|qx 0 rfl rfl S18<|dn 0 rfl rfl S18<|dn 0 rfl rfl S18<|qx 0 rfl rfl S18<|qx 0 rfl rfl S18 ?_
     refine qx 0 rfl rfl S18<|dn 0 rfl rfl S18<|sd_nil ?_
     exact ⟨rfl, true, sbq, hm, ((kz0.gr G3).gr G4)⟩
   replace hm := iF c10 hm
   refine qh 0 rfl rfl S18 (fun w hS => vv_fieldAddr fa_50_2 rfl)<|qh 0 rfl rfl S18 (fun w hS => vv_load1 (v := .int .i64 p0.Storage) one_3 rfl (Bx.kp B13 hS) rfl)<|qh 0 rfl rfl S18 (fun w hS => vv_lss (a := p0.Storage) (b := 0) rfl rfl)<|dn 0 rfl rfl S18<|qq 0 rfl rfl S18 (fun w hS => vv_move rfl) (fun c11 => ?_) (fun c11 => ?_)
   · replace hm := iT c11 hm
     refine qx 0 rfl rfl S18<|qx 0 rfl rfl S18<|qx 0 rfl rfl S18<|dn 0 rfl rfl S18<|sd_nil ?_
     exact ⟨rfl, true, sbq, hm, ((kz0.gr G3).gr G4)⟩
   replace hm := iF c11 hm
   refine qh 0 rfl rfl S18 (fun w hS => vv_fieldAddr fa_50_2 rfl)<|qh 0 rfl rfl S18 (fun w hS => vv_load1 (v := .int .i64 p0.Storage) one_3 rfl (Bx.kp B13 hS) rfl)<|qh 0 rfl rfl S18 (fun w hS => vv_gtr (a := p0.Storage) (b := 10000) rfl rfl)<|dn 0 rfl rfl S18<|sd_nil ?_
   exact ⟨rfl, (decide ((10000 : Int) < p0.Storage)), sbq, hm, ((kz0.gr G3).gr G4)⟩
 clear hm; rintro a1 w2 ⟨hm, K2⟩
 have z4 := K2.size
 unfold ref10_ValidNeed_J1 at hm
 refine sw_cond rfl (fun c1 => ?_) (fun c1 => ?_)
 · replace hm := cnd_t c1 hm
   refine qs 1 rfl<|qm rfl<|qb ?_
   have X5 := (X3.kz K2)
   cases hm
   refine ⟨_, _, rfl, res_1 rfl (rv_tmp rfl), ?_⟩
   exact ⟨rfl, X5⟩
 replace hm := cnd_f c1 hm
 refine qu<|qs 29 rfl<|qv rfl (vv_fieldAddr fa_50_3 rfl) ?_
 have B6 := (Bw1.kz K2)
 refine qv rfl (vv_load1 (v := .int .i64 p0.Headers) one_3 rfl B6 rfl)<|qv rfl (vv_geq (a := p0.Headers) (b := 0) rfl rfl)<|qpF rfl (vv_move rfl) (fun c2 => ?_) (fun c2 => ?_)
 · replace hm := iF c2 hm
   refine qk rfl<|qk rfl<|qk rfl<|qm rfl<|qm rfl<|qk rfl<|qk rfl ?_
   refine qk rfl<|qm rfl<|qm rfl<|qk rfl<|qk rfl<|qk rfl<|qm rfl ?_
   refine qm rfl<|qk rfl<|qk rfl<|qk rfl<|qm rfl<|qm rfl<|qk rfl ?_
   refine qk rfl<|qk rfl<|qm rfl<|qm rfl<|sd_done<|sw_ret ?_
   have X12 := (X3.kz K2)
   cases hm
   refine ⟨_, _, rfl, res_1 rfl (rv_tmp rfl), ?_⟩
   exact ⟨rfl, X12⟩
 replace hm := iT c2 hm
 refine qv rfl (vv_fieldAddr fa_50_3 rfl)<|qv rfl (vv_load1 (v := .int .i64 p0.Headers) one_3 rfl B6 rfl)<|qv rfl (vv_leq (a := p0.Headers) (b := 1000) rfl rfl)<|qm rfl<|qpF rfl (vv_move rfl) (fun c3 => ?_) (fun c3 => ?_)
 · replace hm := iF c3 hm
   refine qk rfl<|qk rfl<|qk rfl<|qm rfl<|qm rfl<|qk rfl<|qk rfl ?_
   refine qk rfl<|qm rfl<|qm rfl<|qk rfl<|qk rfl<|qk rfl<|qm rfl ?_
   refine qm rfl<|qk rfl<|qk rfl<|qk rfl<|qm rfl<|qm rfl<|sd_done ?_
   refine sw_ret ?_
   have X11 := (X3.kz K2)
   cases hm
   refine ⟨_, _, rfl, res_1 rfl (rv_tmp rfl), ?_⟩
   exact ⟨rfl, X11⟩
 replace hm := iT c3 hm
 refine qv rfl (vv_fieldAddr fa_50_4 rfl)<|qv rfl (vv_load1 (v := .int .i64 p0.HeaderPrice) one_3 rfl B6 rfl)<|qv rfl (vv_geq (a := p0.HeaderPrice) (b := 0) rfl rfl)<|qm rfl<|qpF rfl (vv_move rfl) (fun c4 => ?_) (fun c4 => ?_)
 · replace hm := iF c4 hm
   refine qk rfl<|qk rfl<|qk rfl<|qm rfl<|qm rfl<|qk rfl<|qk rfl ?_
   refine qk rfl<|qm rfl<|qm rfl<|qk rfl<|qk rfl<|qk rfl<|qm rfl ?_
   refine qm rfl<|sd_done<|sw_ret ?_
   have X10 := (X3.kz K2)
   cases hm
   refine ⟨_, _, rfl, res_1 rfl (rv_tmp rfl), ?_⟩
   exact ⟨rfl, X10⟩
 replace hm := iT c4 hm
 refine qv rfl (vv_fieldAddr fa_50_4 rfl)<|qv rfl (vv_load1 (v := .int .i64 p0.HeaderPrice) one_3 rfl B6 rfl)<|qv rfl (vv_leq (a := p0.HeaderPrice) (b := 1000) rfl rfl)<|qm rfl<|qpF rfl (vv_move rfl) (fun c5 => ?_) (fun c5 => ?_)
 · replace hm := iF c5 hm
   refine qk rfl<|qk rfl<|qk rfl<|qm rfl<|qm rfl<|qk rfl<|qk rfl ?_
   refine qk rfl<|qm rfl<|qm rfl<|sd_done<|sw_ret ?_
   have X9 := (X3.kz K2)
   cases hm
   refine ⟨_, _, rfl, res_1 rfl (rv_tmp rfl), ?_⟩
   exact ⟨rfl, X9⟩
 replace hm := iT c5 hm
 refine qv rfl (vv_fieldAddr fa_50_5 rfl)<|qv rfl (vv_load1 (v := .int .i64 p0.StoragePrice) one_3 rfl B6 rfl)<|qv rfl (vv_geq (a := p0.StoragePrice) (b := 0) rfl rfl)<|qm rfl<|qpF rfl (vv_move rfl) (fun c6 => ?_) (fun c6 => ?_)
 · replace hm := iF c6 hm
   refine qk rfl<|qk rfl<|qk rfl<|qm rfl<|qm rfl<|sd_done<|sw_ret ?_
   have X8 := (X3.kz K2)
   cases hm
   refine ⟨_, _, rfl, res_1 rfl (rv_tmp rfl), ?_⟩
   exact ⟨rfl, X8⟩
 replace hm := iT c6 hm
 refine qv rfl (vv_fieldAddr fa_50_5 rfl)<|qv rfl (vv_load1 (v := .int .i64 p0.StoragePrice) one_3 rfl B6 rfl)<|qv rfl (vv_leq (a := p0.StoragePrice) (b := 1000) rfl rfl)<|qm rfl<|qm rfl<|sd_done<|sw_ret ?_
 have X7 := (X3.kz K2)
 cases hm
 refine ⟨_, _, rfl, res_1 rfl (rv_tmp rfl), ?_⟩
 exact ⟨rfl, X7⟩
theorem ref10_SchemeOf_w {p0 p1 r} (hm : ref10_SchemeOf p0 p1 = some r) {w : World} :
    Calls Try.prog 92 [.agg (TNeed.cs p0).toArray, bv p1].toArray w fun e w' => ∃ v, e = .returned v ∧ (v = .agg (TScheme.cs r).toArray ∧ Gr w w') := by
 unfold ref10_SchemeOf at hm
 refine calls_of_sw 20 Try.func92 rfl rfl rfl<|qs 2 rfl<|qe rfl (ev_box (cs := TNeed.cs p0) rfl rfl) ?_
 rintro _ w1 ⟨b1, rfl, hbw1, Bw1, G1⟩
 have z1 := G1.size
 have lt2 := Bw1.lt
 refine qe rfl (ev_alloc (cs := TScheme.cs (TScheme.mk 0#8 0 0 (TGroup.mk 0#64 0#64 0#64))) zv_26 rfl) ?_
 rintro _ w2 ⟨b2, rfl, hbw2, Bw2, G2⟩
 have z3 := G2.size
 have lt4 := Bw2.lt
 refine qd 6 rfl<|qm rfl<|qv rfl (vv_fieldAddr fa_50_0 rfl) ?_
 have B5 := (Bw1.gr G2)
 refine qv rfl (vv_load1 (v := .int .i64 p0.Depth) one_3 rfl B5 rfl)<|qv rfl (vv_build (cs := TScheme.cs (TScheme.mk p1 p0.Depth 0 (TGroup.mk 0#64 0#64 0#64))) bs_26 rfl rfl)<|qe rfl (ev_alloc (cs := TScheme.cs (TScheme.mk 0#8 0 0 (TGroup.mk 0#64 0#64 0#64))) zv_26 rfl) ?_
 rintro _ w3 ⟨b3, rfl, hbw3, Bw3, G3⟩
 have z6 := G3.size
 have lt7 := Bw3.lt
 refine qe rfl (ev_stW agg_26 rfl rfl rfl Bw3 rfl rfl) ?_
 rintro _ w4 ⟨Bw4, M4⟩
 have z8 := M4.size
 refine sd_done<|sw_seq<|qs 2 rfl<|qm rfl<|qv rfl (vv_eqlB (p := p1) (q := 4#8) rfl rfl)<|sd_done ?_
 refine cnF rfl (fun c1 => ?_) (fun c1 => ?_)
 · replace hm := iF c1 hm
   refine qu<|qs 2 rfl<|qv rfl (vv_loadW agg_26 rfl Bw4 rfl) ?_
   have B16 := ((Bw2.gr G3).md M4)
   refine qe rfl (ev_stW agg_26 rfl rfl rfl B16 rfl rfl) ?_
   rintro _ w8 ⟨Bw8, M8⟩
   have z17 := M8.size
   refine sd_done<|sw_ret ?_
   have X18 := ((((((Gr.refl w).trans G1).trans G2).trans G3).md M4).md M8)
   cases hm
   refine ⟨_, _, rfl, res_1 rfl (rv_cellW agg_26 rfl Bw8 rfl), ?_⟩
   exact ⟨rfl, X18⟩
 replace hm := iT c1 hm
 refine qs 5 rfl<|qv rfl (vv_fieldAddr fa_50_1 rfl) ?_
 have B9 := ((B5.gr G3).md M4)
 refine qv rfl (vv_load1 (v := .int .i64 p0.Revoked) one_3 rfl B9 rfl)<|qv rfl (vv_maxK rfl rfl)<|qv rfl (vv_fieldAddr fa_26_2 rfl)<|qe rfl (ev_st1 (cs' := TScheme.cs (TScheme.mk p1 p0.Depth (mxI p0.Revoked 1) (TGroup.mk 0#64 0#64 0#64))) (one_3).siz rfl rfl rfl Bw4 rfl rfl) ?_
 rintro _ w5 ⟨Bw5, M5⟩
 have z10 := M5.size
 refine sd_done<|qg 4 rfl<|qv rfl (vv_fieldAddr fa_50_6 rfl) ?_
 have B11 := (B9.md M5)
 refine qv rfl (vv_loadM (vs := TGroup.cs p0.Group) agg_24 rfl B11 rfl rfl)<|qv rfl (vv_fieldAddr fa_26_3 rfl)<|qe rfl (ev_stM (cs' := TScheme.cs (TScheme.mk p1 p0.Depth (mxI p0.Revoked 1) p0.Group)) (vs := TGroup.cs p0.Group) (agg_24).siz rfl rfl rfl rfl rfl Bw5 rfl rfl) ?_
 rintro _ w6 ⟨Bw6, M6⟩
 have z12 := M6.size
 refine qd 2 rfl<|qv rfl (vv_loadW agg_26 rfl Bw6 rfl) ?_
 have B13 := ((((Bw2.gr G3).md M4).md M5).md M6)
 refine qe rfl (ev_stW agg_26 rfl rfl rfl B13 rfl rfl) ?_
 rintro _ w7 ⟨Bw7, M7⟩
 have z14 := M7.size
 refine sd_done<|sw_ret ?_
 have X15 := ((((((((Gr.refl w).trans G1).trans G2).trans G3).md M4).md M5).md M6).md M7)
 cases hm
 refine ⟨_, _, rfl, res_1 rfl (rv_cellW agg_26 rfl Bw7 rfl), ?_⟩
 exact ⟨rfl, X15⟩
theorem ref01_IsPrime_w {p0 r} (hm : ref01_IsPrime p0 = some r) {w : World} :
    Calls Try.prog 135 [wv p0].toArray w fun e w' => ∃ v, e = .returned v ∧ (v = .bool r ∧ Gr w w') := by
 unfold ref01_IsPrime at hm
 refine calls_of_sw 17 Try.func135 rfl rfl rfl<|qs 1 rfl<|qm rfl<|sd_done<|sw_seq<|sw_seq ?_
 refine qg 1 rfl<|qm rfl<|sd_done<|sw_block<|sw_loopD (α := Nat × BitVec 64) (rg 2 13) (fun ⟨n1, a2⟩ => [(2, .bool false), (3, wv a2)]) (fun ⟨n1, a2⟩ wr => (fixN (ref01_IsPrime_L1 p0) n1 a2 = some r) ∧ Kz [] w wr) (fun ⟨n1, a2⟩ => n1) ⟨FUEL, 2#64⟩ ?_ ?_ ?_
 · exact sbq
 · exact ⟨hm, Kz.refl _ _⟩
 clear hm; rintro ⟨n1, a2⟩ w1 ⟨hm, K1⟩
 have z1 := K1.size
 have hb := fix_succ hm; clear hm; obtain ⟨n1, rfl, hm⟩ := hb
 generalize hrec1 : fixN (ref01_IsPrime_L1 p0) n1 = rec1 at hm
 unfold ref01_IsPrime_L1 at hm
 try dsimp only at hm
 refine sw_seq<|qs 5 rfl<|qm rfl<|qm rfl<|qv rfl (vv_umul (a := a2) (b := a2) rfl rfl)<|qm rfl ?_
 refine qv rfl (vv_leqU (c := a2 * a2) (d := p0) rfl rfl)<|sd_done<|cnF rfl (fun c1 => ?_) (fun c1 => ?_)
 · replace hm := iF c1 hm
   refine sw_exit<|then_x<|then_x<|block_x<|then_n<|qs 3 rfl ?_
   refine qm rfl<|qv rfl (vv_geqU (c := p0) (d := 2#64) rfl rfl)<|qm rfl<|sd_done<|sw_ret ?_
   have X4 := ((Gr.refl w).kz K1)
   cases hm
   refine ⟨_, _, rfl, res_1 rfl (rv_tmp rfl), ?_⟩
   exact ⟨rfl, X4⟩
 replace hm := iT c1 hm
 refine qu<|sw_seq<|sw_block<|qs 4 rfl<|qm rfl ?_
 refine qm rfl ?_
 obtain ⟨x3, hx3, hm⟩ := bnd hm
 refine qv rfl (vv_remU (c := p0) (d := a2) rfl rfl hx3)<|qv rfl (vv_eqlU (c := x3) (d := 0#64) rfl rfl)<|sd_done<|sw_cond rfl (fun c2 => ?_) (fun c2 => ?_)
 · replace hm := iT c2 hm
   refine qs 1 rfl<|qm rfl<|sd_done<|sw_ret<|block_r<|then_r ?_
   refine then_r<|block_r<|then_r ?_
   have X2 := ((Gr.refl w).kz K1)
   cases hm
   refine ⟨_, _, rfl, res_1 rfl (rv_tmp rfl), ?_⟩
   exact ⟨rfl, X2⟩
 replace hm := iF c2 hm
 refine sw_skip<|block_n<|then_n<|qg 3 rfl<|qm rfl<|qv rfl (vv_uadd (a := a2) (b := 1#64) rfl rfl)<|qm rfl ?_
 refine sd_nil ?_
 have K_3 : Kz [] w w1 := K1
 subst hrec1
 exact ⟨rfl, ⟨n1, a2 + 1#64⟩, sbq, ⟨hm, K_3⟩, Nat.lt_succ_self _⟩
theorem ref01_Power_w {p0 p1 p2 r} (hm : ref01_Power p0 p1 p2 = some r) {w : World} :
    Calls Try.prog 136 [wv p0, wv p1, wv p2].toArray w fun e w' => ∃ v, e = .returned v ∧ (v = wv r ∧ Gr w w') := by
 unfold ref01_Power at hm
 refine calls_of_sw 32 Try.func136 rfl rfl rfl<|qs 1 rfl<|qm rfl<|qd 3 rfl ?_
 refine qm rfl ?_
 obtain ⟨x1, hx1, hm⟩ := bnd hm
 refine qv rfl (vv_remU (c := 1#64) (d := p2) rfl rfl hx1)<|qm rfl<|qd 4 rfl<|qm rfl<|qm rfl ?_
 obtain ⟨x2, hx2, hm⟩ := bnd hm
 refine qv rfl (vv_remU (c := p0) (d := p2) rfl rfl hx2)<|qm rfl<|sd_done<|sw_seq<|sw_block<|sw_loopD (α := Nat × BitVec 64 × BitVec 64 × BitVec 64) ([1, 7, 8] ++ rg 14 17) (fun ⟨n1, a6, a7, a8⟩ => [(1, wv a6), (7, wv a7), (8, wv a8)]) (fun ⟨n1, a6, a7, a8⟩ wr => (fixN (ref01_Power_L1 p2) n1 (a6, a7, a8) = some r) ∧ Kz [] w wr) (fun ⟨n1, a6, a7, a8⟩ => n1) ⟨FUEL, p1, x1, x2⟩ ?_ ?_ ?_
 · exact sbq
 · exact ⟨hm, Kz.refl _ _⟩
 clear hm; rintro ⟨n1, a6, a7, a8⟩ w1 ⟨hm, K1⟩
 have z1 := K1.size
 have hb := fix_succ hm; clear hm; obtain ⟨n1, rfl, hm⟩ := hb
 generalize hrec1 : fixN (ref01_Power_L1 p2) n1 = rec1 at hm
 unfold ref01_Power_L1 at hm
 try dsimp only at hm
 refine sw_seq<|qs 2 rfl<|qm rfl<|qv rfl (vv_gtrU (c := a6) (d := 0#64) rfl rfl)<|sd_done<|cnF rfl (fun c1 => ?_) (fun c1 => ?_)
 · replace hm := iF c1 hm
   refine sw_exit<|then_x<|then_x<|block_x<|then_n<|qs 2 rfl ?_
   refine qm rfl<|qm rfl<|sd_done<|sw_ret ?_
   have X7 := ((Gr.refl w).kz K1)
   cases hm
   refine ⟨_, _, rfl, res_1 rfl (rv_tmp rfl), ?_⟩
   exact ⟨rfl, X7⟩
 replace hm := iT c1 hm
 refine qu<|sw_block ?_
 have X2 := ((Gr.refl w).kz K1)
 refine qj (β := BitVec 64) ([7] ++ rg 16 8) (fun a9 => [(7, wv a9)]) (fun a9 wr => (ref01_Power_J2 p2 a6 a8 rec1 a9 = some r) ∧ Kz [] w1 wr) ?_ ?_
 · refine qs 3 rfl<|qm rfl ?_
   obtain ⟨x12, hx12, hm⟩ := bnd hm
   refine qv rfl (vv_remU (c := a6) (d := 2#64) rfl rfl hx12)<|qv rfl (vv_eqlU (c := x12) (d := 1#64) rfl rfl)<|sd_done<|cnF rfl (fun c2 => ?_) (fun c2 => ?_)
   · replace hm := iF c2 hm
     refine sw_skip ?_
     exact ⟨rfl, a7, sbq, hm, kz0⟩
   replace hm := iT c2 hm
   refine qg 6 rfl<|qm rfl<|qm rfl<|qv rfl (vv_umul (a := a7) (b := a8) rfl rfl)<|qm rfl ?_
   obtain ⟨x13, hx13, hm⟩ := bnd hm
   refine qv rfl (vv_remU (c := a7 * a8) (d := p2) rfl rfl hx13)<|qm rfl<|sd_nil ?_
   exact ⟨rfl, x13, sbq, hm, kz0⟩
 clear hm; rintro a9 w2 ⟨hm, K2⟩
 have z3 := K2.size
 unfold ref01_Power_J2 at hm
 refine qs 6 rfl<|qm rfl<|qm rfl<|qv rfl (vv_umul (a := a8) (b := a8) rfl rfl)<|qm rfl ?_
 obtain ⟨x10, hx10, hm⟩ := bnd hm
 refine qv rfl (vv_remU (c := a8 * a8) (d := p2) rfl rfl hx10)<|qm rfl<|sd_done<|qg 3 rfl<|qm rfl ?_
 obtain ⟨x11, hx11, hm⟩ := bnd hm
 refine qv rfl (vv_quoU (c := a6) (d := 2#64) rfl rfl hx11)<|qm rfl<|sd_nil<|block_n ?_
 have K_4 : Kz [] w w2 := (K1.kz K2)
 subst hrec1
 exact ⟨rfl, ⟨n1, x11, a9, x10⟩, sbq, ⟨hm, K_4⟩, Nat.lt_succ_self _⟩
theorem ref01_ValidGroup_w {p0 r} (hm : ref01_ValidGroup p0 = some r) {w : World} :
    Calls Try.prog 115 [.agg (TGroup.cs p0).toArray].toArray w fun e w' => ∃ v, e = .returned v ∧ (v = .bool r ∧ Gr w w') := by
 unfold ref01_ValidGroup at hm
 refine calls_of_sw 52 Try.func115 rfl rfl rfl<|qs 2 rfl<|qe rfl (ev_box (cs := TGroup.cs p0) rfl rfl) ?_
 rintro _ w1 ⟨b1, rfl, hbw1, Bw1, G1⟩
 have z1 := G1.size
 have lt2 := Bw1.lt
 refine qm rfl<|sd_done<|sw_seq ?_
 have X3 := ((Gr.refl w).trans G1)
 refine qj (β := Bool) (rg 3 29) (fun a1 => [(31, .bool a1)]) (fun a1 wr => (ref01_ValidGroup_J1 p0 a1 = some r) ∧ Kz [] w1 wr) ?_ ?_
 · refine qg 29 rfl<|qv rfl (vv_fieldAddr fa_24_0 rfl)<|qv rfl (vv_load1 (v := wv p0.P) one_22 rfl Bw1 rfl)<|qv rfl (vv_gtrU (c := p0.P) (d := 1048575#64) rfl rfl)<|qp rfl (vv_move rfl) (fun c4 => ?_) (fun c4 => ?_)
   · replace hm := iT c4 hm
     refine qk rfl<|qk rfl<|qk rfl<|qk rfl<|qm rfl<|qm rfl<|qk rfl ?_
     refine qk rfl<|qk rfl<|qm rfl<|qm rfl<|qk rfl<|qk rfl<|qk rfl ?_
     refine qk rfl<|qm rfl<|qm rfl<|qk rfl<|qk rfl<|qk rfl<|qk rfl ?_
     refine qk rfl<|qk rfl<|qk rfl<|qm rfl<|sd_nil ?_
     exact ⟨rfl, true, sbq, hm, kz0⟩
   replace hm := iF c4 hm
   refine qv rfl (vv_fieldAddr fa_24_0 rfl)<|qv rfl (vv_load1 (v := wv p0.P) one_22 rfl Bw1 rfl) ?_
   obtain ⟨x3, hx3, hm⟩ := bnd hm
   refine qe rfl (eC en_135 rfl (ref01_IsPrime_w hx3)) ?_
   rintro _ w4 ⟨rfl, G4⟩
   have z12 := G4.size
   refine qv rfl (vv_not rfl)<|qm rfl<|qp rfl (vv_move rfl) (fun c5 => ?_) (fun c5 => ?_)
   · replace hm := cnd_t c5 hm
     refine qk rfl<|qk rfl<|qk rfl<|qm rfl<|qm rfl<|qk rfl<|qk rfl ?_
     refine qk rfl<|qk rfl<|qm rfl<|qm rfl<|qk rfl<|qk rfl<|qk rfl ?_
     refine qk rfl<|qk rfl<|qk rfl<|qk rfl<|qm rfl<|sd_nil ?_
     exact ⟨rfl, true, sbq, hm, (kz0.gr G4)⟩
   replace hm := cnd_f c5 hm
   refine qv rfl (vv_fieldAddr fa_24_1 rfl) ?_
   have B14 := (Bw1.gr G4)
   refine qv rfl (vv_load1 (v := wv p0.Q) one_22 rfl B14 rfl)<|qv rfl (vv_gtrU (c := p0.Q) (d := 1048575#64) rfl rfl)<|qm rfl<|qp rfl (vv_move rfl) (fun c6 => ?_) (fun c6 => ?_)
   · replace hm := iT c6 hm
     refine qk rfl<|qk rfl<|qk rfl<|qk rfl<|qm rfl<|qm rfl<|qk rfl ?_
     refine qk rfl<|qk rfl<|qk rfl<|qk rfl<|qk rfl<|qk rfl<|qm rfl ?_
     refine sd_nil ?_
     exact ⟨rfl, true, sbq, hm, (kz0.gr G4)⟩
   replace hm := iF c6 hm
   refine qv rfl (vv_fieldAddr fa_24_1 rfl)<|qv rfl (vv_load1 (v := wv p0.Q) one_22 rfl B14 rfl) ?_
   obtain ⟨x4, hx4, hm⟩ := bnd hm
   refine qe rfl (eC en_135 rfl (ref01_IsPrime_w hx4)) ?_
   rintro _ w5 ⟨rfl, G5⟩
   have z16 := G5.size
   refine qv rfl (vv_not rfl)<|qm rfl<|qp rfl (vv_move rfl) (fun c7 => ?_) (fun c7 => ?_)
   · replace hm := cnd_t c7 hm
     refine qk rfl<|qk rfl<|qk rfl<|qk rfl<|qk rfl<|qk rfl<|qk rfl ?_
     refine qm rfl<|sd_nil ?_
     exact ⟨rfl, true, sbq, hm, ((kz0.gr G4).gr G5)⟩
   replace hm := cnd_f c7 hm
   refine qv rfl (vv_fieldAddr fa_24_0 rfl) ?_
   have B18 := (B14.gr G5)
   refine qv rfl (vv_load1 (v := wv p0.P) one_22 rfl B18 rfl)<|qv rfl (vv_usub (a := p0.P) (b := 1#64) rfl rfl)<|qv rfl (vv_fieldAddr fa_24_1 rfl)<|qv rfl (vv_load1 (v := wv p0.Q) one_22 rfl B18 rfl) ?_
   obtain ⟨x5, hx5, hm⟩ := bnd hm
   refine qv rfl (vv_remU (c := p0.P - 1#64) (d := p0.Q) rfl rfl hx5)<|qv rfl (vv_neqU (c := x5) (d := 0#64) rfl rfl)<|qm rfl<|sd_nil ?_
   exact ⟨rfl, (decide (x5 ≠ 0#64)), sbq, hm, ((kz0.gr G4).gr G5)⟩
 clear hm; rintro a1 w2 ⟨hm, K2⟩
 have z4 := K2.size
 unfold ref01_ValidGroup_J1 at hm
 refine sw_cond rfl (fun c1 => ?_) (fun c1 => ?_)
 · replace hm := cnd_t c1 hm
   refine qs 1 rfl<|qm rfl<|qb ?_
   have X5 := (X3.kz K2)
   cases hm
   refine ⟨_, _, rfl, res_1 rfl (rv_tmp rfl), ?_⟩
   exact ⟨rfl, X5⟩
 replace hm := cnd_f c1 hm
 refine qu<|qs 21 rfl<|qv rfl (vv_fieldAddr fa_24_2 rfl) ?_
 have B6 := (Bw1.kz K2)
 refine qv rfl (vv_load1 (v := wv p0.G) one_22 rfl B6 rfl)<|qv rfl (vv_geqU (c := p0.G) (d := 2#64) rfl rfl)<|qpF rfl (vv_move rfl) (fun c2 => ?_) (fun c2 => ?_)
 · replace hm := iF c2 hm
   refine qk rfl<|qk rfl<|qk rfl<|qk rfl<|qk rfl<|qm rfl<|qm rfl ?_
   refine qk rfl<|qk rfl<|qk rfl<|qk rfl<|qk rfl<|qk rfl<|qk rfl ?_
   refine qk rfl<|qm rfl<|qm rfl<|sd_done<|sw_ret ?_
   have X10 := (X3.kz K2)
   cases hm
   refine ⟨_, _, rfl, res_1 rfl (rv_tmp rfl), ?_⟩
   exact ⟨rfl, X10⟩
 replace hm := iT c2 hm
 refine qv rfl (vv_fieldAddr fa_24_2 rfl)<|qv rfl (vv_load1 (v := wv p0.G) one_22 rfl B6 rfl)<|qv rfl (vv_fieldAddr fa_24_0 rfl)<|qv rfl (vv_load1 (v := wv p0.P) one_22 rfl B6 rfl)<|qv rfl (vv_lssU (c := p0.G) (d := p0.P) rfl rfl)<|qm rfl<|qpF rfl (vv_move rfl) (fun c3 => ?_) (fun c3 => ?_)
 · replace hm := iF c3 hm
   refine qk rfl<|qk rfl<|qk rfl<|qk rfl<|qk rfl<|qk rfl<|qk rfl ?_
   refine qk rfl<|qm rfl<|qm rfl<|sd_done<|sw_ret ?_
   have X9 := (X3.kz K2)
   cases hm
   refine ⟨_, _, rfl, res_1 rfl (rv_tmp rfl), ?_⟩
   exact ⟨rfl, X9⟩
 replace hm := iT c3 hm
 refine qv rfl (vv_fieldAddr fa_24_2 rfl)<|qv rfl (vv_load1 (v := wv p0.G) one_22 rfl B6 rfl)<|qv rfl (vv_fieldAddr fa_24_1 rfl)<|qv rfl (vv_load1 (v := wv p0.Q) one_22 rfl B6 rfl)<|qv rfl (vv_fieldAddr fa_24_0 rfl)<|qv rfl (vv_load1 (v := wv p0.P) one_22 rfl B6 rfl) ?_
 obtain ⟨x2, hx2, hm⟩ := bnd hm
 refine qe rfl (eC en_136 rfl (ref01_Power_w hx2)) ?_
 rintro _ w3 ⟨rfl, G3⟩
 have z7 := G3.size
 refine qv rfl (vv_eqlU (c := x2) (d := 1#64) rfl rfl)<|qm rfl<|qm rfl<|sd_done<|sw_ret ?_
 have X8 := ((X3.kz K2).trans G3)
 cases hm
 refine ⟨_, _, rfl, res_1 rfl (rv_tmp rfl), ?_⟩
 exact ⟨rfl, X8⟩
theorem ref04_Valid_w {p0 r} (hm : ref04_Valid p0 = some r) {w : World} :
    Calls Try.prog 93 [.agg (TScheme.cs p0).toArray].toArray w fun e w' => ∃ v, e = .returned v ∧ (v = .bool r ∧ Gr w w') := by
 unfold ref04_Valid at hm
 refine calls_of_sw 43 Try.func93 rfl rfl rfl<|qs 2 rfl<|qe rfl (ev_box (cs := TScheme.cs p0) rfl rfl) ?_
 rintro _ w1 ⟨b1, rfl, hbw1, Bw1, G1⟩
 have z1 := G1.size
 have lt2 := Bw1.lt
 refine qm rfl<|sd_done<|sw_seq ?_
 have X3 := ((Gr.refl w).trans G1)
 refine qj (β := Bool) (rg 3 29) (fun a1 => [(31, .bool a1)]) (fun a1 wr => (ref04_Valid_J1 p0 a1 = some r) ∧ Kz [] w1 wr) ?_ ?_
 · refine qg 29 rfl<|qv rfl (vv_fieldAddr fa_26_0 rfl)<|qv rfl (vv_load1 (v := bv p0.Kind) one_5 rfl Bw1 rfl)<|qv rfl (vv_neqB (p := p0.Kind) (q := 4#8) rfl rfl)<|qp rfl (vv_move rfl) (fun c2 => ?_) (fun c2 => ?_)
   · replace hm := iT c2 hm
     refine qk rfl<|qk rfl<|qk rfl<|qm rfl<|qm rfl<|qk rfl<|qk rfl ?_
     refine qk rfl<|qm rfl<|qm rfl<|qk rfl<|qk rfl<|qk rfl<|qm rfl ?_
     refine qm rfl<|qk rfl<|qk rfl<|qk rfl<|qm rfl<|qm rfl<|qk rfl ?_
     refine qk rfl<|qk rfl<|qk rfl<|qm rfl<|sd_nil ?_
     exact ⟨rfl, true, sbq, hm, kz0⟩
   replace hm := iF c2 hm
   refine qv rfl (vv_fieldAddr fa_26_1 rfl)<|qv rfl (vv_load1 (v := .int .i64 p0.Depth) one_3 rfl Bw1 rfl)<|qv rfl (vv_lss (a := p0.Depth) (b := 0) rfl rfl)<|qm rfl<|qp rfl (vv_move rfl) (fun c3 => ?_) (fun c3 => ?_)
   · replace hm := iT c3 hm
     refine qk rfl<|qk rfl<|qk rfl<|qm rfl<|qm rfl<|qk rfl<|qk rfl ?_
     refine qk rfl<|qm rfl<|qm rfl<|qk rfl<|qk rfl<|qk rfl<|qm rfl ?_
     refine qm rfl<|qk rfl<|qk rfl<|qk rfl<|qk rfl<|qm rfl<|sd_nil ?_
     exact ⟨rfl, true, sbq, hm, kz0⟩
   replace hm := iF c3 hm
   refine qv rfl (vv_fieldAddr fa_26_1 rfl)<|qv rfl (vv_load1 (v := .int .i64 p0.Depth) one_3 rfl Bw1 rfl)<|qv rfl (vv_gtr (a := p0.Depth) (b := 6) rfl rfl)<|qm rfl<|qp rfl (vv_move rfl) (fun c4 => ?_) (fun c4 => ?_)
   · replace hm := iT c4 hm
     refine qk rfl<|qk rfl<|qk rfl<|qm rfl<|qm rfl<|qk rfl<|qk rfl ?_
     refine qk rfl<|qm rfl<|qm rfl<|qk rfl<|qk rfl<|qk rfl<|qk rfl ?_
     refine qm rfl<|sd_nil ?_
     exact ⟨rfl, true, sbq, hm, kz0⟩
   replace hm := iF c4 hm
   refine qv rfl (vv_fieldAddr fa_26_2 rfl)<|qv rfl (vv_load1 (v := .int .i64 p0.Degree) one_3 rfl Bw1 rfl)<|qv rfl (vv_lss (a := p0.Degree) (b := 1) rfl rfl)<|qm rfl<|qp rfl (vv_move rfl) (fun c5 => ?_) (fun c5 => ?_)
   · replace hm := iT c5 hm
     refine qk rfl<|qk rfl<|qk rfl<|qm rfl<|qm rfl<|qk rfl<|qk rfl ?_
     refine qk rfl<|qk rfl<|qm rfl<|sd_nil ?_
     exact ⟨rfl, true, sbq, hm, kz0⟩
   replace hm := iF c5 hm
   refine qv rfl (vv_fieldAddr fa_26_2 rfl)<|qv rfl (vv_load1 (v := .int .i64 p0.Degree) one_3 rfl Bw1 rfl)<|qv rfl (vv_gtr (a := p0.Degree) (b := 8) rfl rfl)<|qm rfl<|qp rfl (vv_move rfl) (fun c6 => ?_) (fun c6 => ?_)
   · replace hm := iT c6 hm
     refine qk rfl<|qk rfl<|qk rfl<|qk rfl<|qm rfl<|sd_nil ?_
     exact ⟨rfl, true, sbq, hm, kz0⟩
   replace hm := iF c6 hm
   refine qv rfl (vv_fieldAddr fa_26_3 rfl)<|qv rfl (vv_loadM (vs := TGroup.cs p0.Group) agg_24 rfl Bw1 rfl rfl) ?_
   obtain ⟨x3, hx3, hm⟩ := bnd hm
   refine qe rfl (eC en_115 rfl (ref01_ValidGroup_w hx3)) ?_
   rintro _ w5 ⟨rfl, G5⟩
   have z15 := G5.size
   refine qv rfl (vv_not rfl)<|qm rfl<|sd_nil ?_
   exact ⟨rfl, (!x3), sbq, hm, (kz0.gr G5)⟩
 clear hm; rintro a1 w2 ⟨hm, K2⟩
 have z4 := K2.size
 unfold ref04_Valid_J1 at hm
 refine sw_cond rfl (fun c1 => ?_) (fun c1 => ?_)
 · replace hm := cnd_t c1 hm
   refine qs 1 rfl<|qm rfl<|qb ?_
   have X5 := (X3.kz K2)
   cases hm
   refine ⟨_, _, rfl, res_1 rfl (rv_tmp rfl), ?_⟩
   exact ⟨rfl, X5⟩
 replace hm := cnd_f c1 hm
 refine qu<|sw_seq<|dw [([])] [] (.leaf [(0,10),(1,10),(2,10),(3,10),(4,10),(6,10),(7,10),(5,0),(8,10),(9,10),(10,10),(11,10)]) ?_
 intro w3 G3 zw3
 refine sdz_leaf<|dh 0 rfl rfl (fun w hS => vv_fieldAddr fa_26_3 rfl)<|dh 0 rfl rfl (fun w hS => vv_fieldAddr fa_24_1 rfl) ?_
 have B6 := ((Bw1.kz K2).gr G3)
 refine dh 0 rfl rfl (fun w hS => vv_load1 (v := wv p0.Group.Q) one_22 rfl (Bx.kp B6 hS) rfl)<|dh 0 rfl rfl (fun w hS => vv_fieldAddr fa_26_1 rfl)<|dh 0 rfl rfl (fun w hS => vv_load1 (v := .int .i64 p0.Depth) one_3 rfl (Bx.kp B6 hS) rfl)<|dh 0 rfl rfl (fun w hS => vv_fieldAddr fa_26_2 rfl)<|dh 0 rfl rfl (fun w hS => vv_load1 (v := .int .i64 p0.Degree) one_3 rfl (Bx.kp B6 hS) rfl) ?_
 obtain ⟨x2, hx2, hm⟩ := bnd hm
 refine qz [] rfl (eC en_77 rfl (ref03_Receivers_w hx2)) ⟨fun _ => tk0, trivial⟩ ?_
 rintro _ w4 ⟨rfl, G4⟩
 have z7 := G4.size
 refine kG G4 ?_
 have S8 := ((Kp.refl ([]) w3).gr G4)
 refine qh 0 rfl rfl S8 (fun w hS => vv_add (k := .i64) (a := x2) (b := p0.Degree) rfl rfl)<|qh 0 rfl rfl S8 (fun w hS => vv_cvIU cv_3_22 rfl)<|qh 0 rfl rfl S8 (fun w hS => vv_gtrU (c := p0.Group.Q) (d := wd (w64 (x2 + p0.Degree))) rfl rfl)<|dn 0 rfl rfl S8<|sd_done<|sw_ret ?_
 have X9 := (((X3.kz K2).trans G3).trans G4)
 cases hm
 refine ⟨_, _, rfl, res_1 rfl (rv_tmp rfl), ?_⟩
 exact ⟨rfl, X9⟩
theorem ref03_Path_w {p0 p1 r} (hm : ref03_Path p0 p1 = some r) {w : World} :
    Calls Try.prog 137 [.int .i64 p0, .int .i64 p1].toArray w fun e w' => ∃ v, e = .returned v ∧ (∃ ur0_s zr0_s gr0_s, v = ur0_s ∧ Own w' zr0_s gr0_s 3 1 ur0_s (r.map ic) ∧ Hdn (zr0_s = 0 ∨ w.heap.size ≤ gr0_s) ∧ Gr w w') := by
 unfold ref03_Path at hm
 refine calls_of_sw 19 Try.func137 rfl rfl rfl<|qs 1 rfl<|qm rfl<|qd 1 rfl ?_
 refine qm rfl<|sd_done<|sw_seq<|sw_block<|sw_loopD (α := Nat × Int × List Int × Value × Nat × Nat) ([1] ++ rg 5 10) (fun ⟨n1, a4, a5, vy6, zy6, gy6⟩ => [(1, .int .i64 a4), (5, vy6)]) (fun ⟨n1, a4, a5, vy6, zy6, gy6⟩ wr => (fixN (ref03_Path_L1 p0) n1 (a4, a5) = some r) ∧ Own wr zy6 gy6 3 1 vy6 (a5.map ic) ∧ Hdn (zy6 = 0 ∨ w.heap.size ≤ gy6) ∧ Kz [] w wr) (fun ⟨n1, a4, a5, vy6, zy6, gy6⟩ => n1) ⟨FUEL, p1, [], (.slice none 0 0), 0, 0⟩ ?_ ?_ ?_
 · exact sbq
 · exact ⟨hm, (own_nil _ 0 3 1), ⟨(.inl rfl)⟩, Kz.refl _ _⟩
 clear hm; rintro ⟨n1, a4, a5, vy6, zy6, gy6⟩ w1 ⟨hm, Fw1_0, Fw1_1, K1⟩
 have z1 := K1.size
 have lt2 := Fw1_0.lth
 have hb := fix_succ hm; clear hm; obtain ⟨n1, rfl, hm⟩ := hb
 generalize hrec1 : fixN (ref03_Path_L1 p0) n1 = rec1 at hm
 unfold ref03_Path_L1 at hm
 try dsimp only at hm
 refine sw_seq<|qs 3 rfl<|qm rfl<|qm rfl<|qv rfl (vv_neq (a := a4) (b := p0) rfl rfl)<|sd_done ?_
 refine sw_cond rfl (fun c1 => ?_) (fun c1 => ?_)
 · replace hm := iT c1 hm
   refine qu<|sw_block<|qs 5 rfl<|qm rfl<|qe rfl (ev_litT [a4] ic bsl_32_1 rfl rfl (ws_of rfl) rfl rfl rfl) ?_
   rintro vw2 w2 ⟨gw2, hbw2, Ow2, G2⟩
   have z3 := G2.size
   have lt4 := Ow2.lth
   refine qm rfl ?_
   have B5 := (Fw1_0.gr G2)
   obtain ⟨l7, hl7, hm⟩ := bnd hm
   refine qe rfl (ev_appT (l := [a4]) (m := a5) (c := ic) apt_32 rfl rfl Ow2 (Own.rd B5) hl7 (by decide)) ?_
   rintro vw3 w3 ⟨zw3, gw3, Ow3, Aw3, qw3, rw3⟩
   have z6 := Aw3.size
   refine qm rfl<|sd_done<|qg 3 rfl<|qm rfl ?_
   obtain ⟨x8, hx8, hm⟩ := bnd hm
   refine qv rfl (vv_quoI (a := a4) (b := 2) rfl rfl hx8)<|qm rfl<|sd_nil<|block_n ?_
   have K_7 : Kz [] w w3 := ((K1.gr G2).ka Aw3 (tk1 ((.inr tk0) : 1 = 0 ∨ w.heap.size ≤ gw2)))
   subst hrec1
   exact ⟨rfl, ⟨n1, x8, l7, vw3, zw3, gw3⟩, sbq, ⟨hm, Ow3, ⟨(pv_app (A := (fun x => w.heap.size ≤ x)) rw3 (.inr tk0))⟩, K_7⟩, Nat.lt_succ_self _⟩
 replace hm := iF c1 hm
 refine sw_exit<|then_x<|then_x<|block_x<|then_n<|qs 5 rfl ?_
 refine qm rfl<|qe rfl (ev_litT [p0] ic bsl_32_1 rfl rfl (ws_of rfl) rfl rfl rfl) ?_
 rintro vw4 w4 ⟨gw4, hbw4, Ow4, G4⟩
 have z8 := G4.size
 have lt9 := Ow4.lth
 refine qm rfl ?_
 have B10 := (Fw1_0.gr G4)
 obtain ⟨l9, hl9, hm⟩ := bnd hm
 refine qe rfl (ev_appT (l := [p0]) (m := a5) (c := ic) apt_32 rfl rfl Ow4 (Own.rd B10) hl9 (by decide)) ?_
 rintro vw5 w5 ⟨zw5, gw5, Ow5, Aw5, qw5, rw5⟩
 have z11 := Aw5.size
 refine qm rfl<|sd_done<|sw_ret ?_
 have X12 := ((((Gr.refl w).kz K1).trans G4).ka Aw5 (tk1 ((.inr tk0) : 1 = 0 ∨ w.heap.size ≤ gw4)))
 cases hm
 refine ⟨_, _, rfl, res_1 rfl (rv_tmp rfl), ?_⟩
 exact ⟨vw5, zw5, gw5, rfl, Ow5, ⟨(pv_app (A := (fun x => w.heap.size ≤ x)) rw5 (.inr tk0))⟩, X12⟩
theorem ref03_Node_w {p0 p1 r} (hm : ref03_Node p0 p1 = some r) {w : World} :
    Calls Try.prog 144 [.int .i64 p0, .int .i64 p1].toArray w fun e w' => ∃ v, e = .returned v ∧ (v = .bool r ∧ Gr w w') := by
 unfold ref03_Node at hm
 refine calls_of_sw 14 Try.func144 rfl rfl rfl<|qs 1 rfl<|qm rfl<|qd 10 rfl ?_
 refine qm rfl<|qv rfl (vv_geq (a := p1) (b := 1) rfl rfl)<|qpF rfl (vv_move rfl) (fun c1 => ?_) (fun c1 => ?_)
 · replace hm := iF c1 hm
   refine qk rfl<|qk rfl<|qk rfl<|qk rfl<|qk rfl<|qm rfl<|qm rfl ?_
   refine sd_done<|sw_ret ?_
   cases hm
   refine ⟨_, _, rfl, res_1 rfl (rv_tmp rfl), ?_⟩
   exact ⟨rfl, (Gr.refl w)⟩
 replace hm := iT c1 hm
 refine qm rfl<|qm rfl ?_
 obtain ⟨x1, hx1, hm⟩ := bnd hm
 refine qe rfl (eC en_77 rfl (ref03_Receivers_w hx1)) ?_
 rintro _ w1 ⟨rfl, G1⟩
 have z1 := G1.size
 refine qv rfl (vv_mul (k := .i64) (a := 2) (b := x1) rfl rfl)<|qv rfl (vv_lss (a := p1) (b := w64 (2 * x1)) rfl rfl)<|qm rfl<|qm rfl<|sd_done<|sw_ret ?_
 have X2 := ((Gr.refl w).trans G1)
 cases hm
 refine ⟨_, _, rfl, res_1 rfl (rv_tmp rfl), ?_⟩
 exact ⟨rfl, X2⟩
theorem ref03_Below_w {p0 p1 r} (hm : ref03_Below p0 p1 = some r) {w : World} :
    Calls Try.prog 145 [.int .i64 p0, .int .i64 p1].toArray w fun e w' => ∃ v, e = .returned v ∧ (v = .bool r ∧ Gr w w') := by
 unfold ref03_Below at hm
 refine calls_of_sw 13 Try.func145 rfl rfl rfl<|qs 1 rfl<|qm rfl<|sd_done<|sw_seq<|sw_block ?_
 refine sw_loopD (α := Nat × Int) ([0] ++ rg 5 5) (fun ⟨n1, a2⟩ => [(0, .int .i64 a2)]) (fun ⟨n1, a2⟩ wr => (fixN (ref03_Below_L1 p1) n1 a2 = some r) ∧ Kz [] w wr) (fun ⟨n1, a2⟩ => n1) ⟨FUEL, p0⟩ ?_ ?_ ?_
 · exact sbq
 · exact ⟨hm, Kz.refl _ _⟩
 clear hm; rintro ⟨n1, a2⟩ w1 ⟨hm, K1⟩
 have z1 := K1.size
 have hb := fix_succ hm; clear hm; obtain ⟨n1, rfl, hm⟩ := hb
 generalize hrec1 : fixN (ref03_Below_L1 p1) n1 = rec1 at hm
 unfold ref03_Below_L1 at hm
 try dsimp only at hm
 refine sw_seq<|qs 3 rfl<|qm rfl<|qm rfl<|qv rfl (vv_gtr (a := a2) (b := p1) rfl rfl)<|sd_done ?_
 refine sw_cond rfl (fun c1 => ?_) (fun c1 => ?_)
 · replace hm := iT c1 hm
   refine qu<|sw_block<|qg 3 rfl<|qm rfl ?_
   obtain ⟨x3, hx3, hm⟩ := bnd hm
   refine qv rfl (vv_quoI (a := a2) (b := 2) rfl rfl hx3)<|qm rfl<|sd_nil<|block_n ?_
   have K_2 : Kz [] w w1 := K1
   subst hrec1
   exact ⟨rfl, ⟨n1, x3⟩, sbq, ⟨hm, K_2⟩, Nat.lt_succ_self _⟩
 replace hm := iF c1 hm
 refine sw_exit<|then_x<|then_x<|block_x<|then_n<|qs 4 rfl ?_
 refine qm rfl<|qm rfl<|qv rfl (vv_eql (a := a2) (b := p1) rfl rfl)<|qm rfl<|sd_done<|sw_ret ?_
 have X3 := ((Gr.refl w).kz K1)
 cases hm
 refine ⟨_, _, rfl, res_1 rfl (rv_tmp rfl), ?_⟩
 exact ⟨rfl, X3⟩
theorem ref03_Level_w {p0 r} (hm : ref03_Level p0 = some r) {w : World} :
    Calls Try.prog 149 [.int .i64 p0].toArray w fun e w' => ∃ v, e = .returned v ∧ (v = .int .i64 r ∧ Gr w w') := by
 unfold ref03_Level at hm
 refine calls_of_sw 11 Try.func149 rfl rfl rfl<|qs 1 rfl<|qm rfl<|qd 1 rfl ?_
 refine qm rfl<|sd_done<|sw_seq<|sw_block<|sw_loopD (α := Nat × Int × Int) ([0] ++ rg 3 7) (fun ⟨n1, a3, a4⟩ => [(0, .int .i64 a3), (3, .int .i64 a4)]) (fun ⟨n1, a3, a4⟩ wr => (fixN (ref03_Level_L1) n1 (a3, a4) = some r) ∧ Kz [] w wr) (fun ⟨n1, a3, a4⟩ => n1) ⟨FUEL, p0, 0⟩ ?_ ?_ ?_
 · exact sbq
 · exact ⟨hm, Kz.refl _ _⟩
 clear hm; rintro ⟨n1, a3, a4⟩ w1 ⟨hm, K1⟩
 have z1 := K1.size
 have hb := fix_succ hm; clear hm; obtain ⟨n1, rfl, hm⟩ := hb
 generalize hrec1 : fixN (ref03_Level_L1) n1 = rec1 at hm
 unfold ref03_Level_L1 at hm
 try dsimp only at hm
 refine sw_seq<|qs 2 rfl<|qm rfl<|qv rfl (vv_gtr (a := a3) (b := 1) rfl rfl)<|sd_done<|cnF rfl (fun c1 => ?_) (fun c1 => ?_)
 · replace hm := iF c1 hm
   refine sw_exit<|then_x<|then_x<|block_x<|then_n<|qs 2 rfl ?_
   refine qm rfl<|qm rfl<|sd_done<|sw_ret ?_
   have X3 := ((Gr.refl w).kz K1)
   cases hm
   refine ⟨_, _, rfl, res_1 rfl (rv_tmp rfl), ?_⟩
   exact ⟨rfl, X3⟩
 replace hm := iT c1 hm
 refine qu<|sw_block<|qs 3 rfl<|qm rfl ?_
 obtain ⟨x5, hx5, hm⟩ := bnd hm
 refine qv rfl (vv_quoI (a := a3) (b := 2) rfl rfl hx5)<|qm rfl<|sd_done<|qg 3 rfl<|qm rfl<|qv rfl (vv_add (k := .i64) (a := a4) (b := 1) rfl rfl)<|qm rfl ?_
 refine sd_nil<|block_n ?_
 have K_2 : Kz [] w w1 := K1
 subst hrec1
 exact ⟨rfl, ⟨n1, x5, w64 (a4 + 1)⟩, sbq, ⟨hm, K_2⟩, Nat.lt_succ_self _⟩
theorem ref03_Special_w {p0 p1 r} (hm : ref03_Special p0 p1 = some r) {w : World} :
    Calls Try.prog 146 [.int .i64 p0, .int .i64 p1].toArray w fun e w' => ∃ v, e = .returned v ∧ (v = .bool r ∧ Gr w w') := by
 unfold ref03_Special at hm
 refine calls_of_sw 11 Try.func146 rfl rfl rfl<|qs 1 rfl<|qm rfl<|qd 7 rfl ?_
 refine qm rfl ?_
 obtain ⟨x1, hx1, hm⟩ := bnd hm
 refine qe rfl (eC en_149 rfl (ref03_Level_w hx1)) ?_
 rintro _ w1 ⟨rfl, G1⟩
 have z1 := G1.size
 refine qm rfl ?_
 obtain ⟨x2, hx2, hm⟩ := bnd hm
 refine qe rfl (eC en_132 rfl (ref03_Stride_w hx2)) ?_
 rintro _ w2 ⟨rfl, G2⟩
 have z2 := G2.size
 obtain ⟨x3, hx3, hm⟩ := bnd hm
 refine qv rfl (vv_remI (a := x1) (b := x2) rfl rfl hx3)<|qv rfl (vv_eql (a := x3) (b := 0) rfl rfl)<|qm rfl<|sd_done<|sw_ret ?_
 have X3 := (((Gr.refl w).trans G1).trans G2)
 cases hm
 refine ⟨_, _, rfl, res_1 rfl (rv_tmp rfl), ?_⟩
 exact ⟨rfl, X3⟩
theorem ref03_between_w {p0 p1 p2 r} (hm : ref03_between p0 p1 p2 = some r) {w : World} :
    Calls Try.prog 147 [.int .i64 p0, .int .i64 p1, .int .i64 p2].toArray w fun e w' => ∃ v, e = .returned v ∧ (v = .int .i64 r ∧ Gr w w') := by
 unfold ref03_between at hm
 refine calls_of_sw 29 Try.func147 rfl rfl rfl<|qs 1 rfl<|qm rfl<|qd 4 rfl ?_
 refine qm rfl<|qm rfl ?_
 obtain ⟨x1, hx1, hm⟩ := bnd hm
 refine qe rfl (eC en_137 rfl (ref03_Path_w hx1)) ?_
 rintro u1_r0_s w1 ⟨_, z1_r0_s, g1_r0_s, rfl, O1_r0_s, f1_r0_s, G1⟩
 have z1 := G1.size
 have lt2 := O1_r0_s.lth
 refine qm rfl<|sd_done<|sw_seq<|qs 1 rfl<|qm rfl<|sd_done ?_
 refine sw_block ?_
 have X3 := ((Gr.refl w).trans G1)
 refine sw_loopD (α := Nat × Int) ([6, 8] ++ rg 12 17) (fun ⟨n1, a3⟩ => [(6, .int .i64 0), (8, .int .i64 a3)]) (fun ⟨n1, a3⟩ wr => (fixN (ref03_between_L1 p0 x1) n1 a3 = some r) ∧ Kz [] w1 wr) (fun ⟨n1, a3⟩ => n1) ⟨FUEL, 1⟩ ?_ ?_ ?_
 · exact sbq
 · exact ⟨hm, Kz.refl _ _⟩
 clear hm; rintro ⟨n1, a3⟩ w2 ⟨hm, K2⟩
 have z4 := K2.size
 have hb := fix_succ hm; clear hm; obtain ⟨n1, rfl, hm⟩ := hb
 generalize hrec1 : fixN (ref03_between_L1 p0 x1) n1 = rec1 at hm
 unfold ref03_between_L1 at hm
 try dsimp only at hm
 refine sw_seq<|qs 5 rfl<|qm rfl<|qm rfl ?_
 have B5 := (O1_r0_s.kz K2)
 refine qv rfl (vv_lenT (l := x1) (c := ic) Try.underlying32 rfl (Own.rd B5))<|qv rfl (vv_sub (k := .i64) (a := (x1.length : Int)) (b := 1) rfl rfl)<|qv rfl (vv_lss (a := a3) (b := w64 ((x1.length : Int) - 1)) rfl rfl)<|sd_done<|cnF rfl (fun c1 => ?_) (fun c1 => ?_)
 · replace hm := iF c1 hm
   refine sw_exit<|then_x<|then_x<|block_x<|then_n<|qs 1 rfl ?_
   refine qm rfl<|sd_done<|sw_ret ?_
   have X10 := (X3.kz K2)
   cases hm
   refine ⟨_, _, rfl, res_1 rfl (rv_tmp rfl), ?_⟩
   exact ⟨rfl, X10⟩
 replace hm := iT c1 hm
 refine qu<|sw_seq<|sw_block<|qs 6 rfl<|qm rfl ?_
 refine qm rfl<|qm rfl ?_
 obtain ⟨y4, hy4, hm⟩ := bnd hm
 refine qv rfl (vv_ixT (i := a3) Try.underlying32 (one_3).siz rfl (Own.rd B5) rfl hy4)<|qv rfl (vv_el1T (q := 0) (u := .int .i64 y4) one_3 rfl (Own.rd B5) hy4 (by first | rfl | omega) rfl) ?_
 obtain ⟨x5, hx5, hm⟩ := bnd hm
 refine qe rfl (eC en_146 rfl (ref03_Special_w hx5)) ?_
 rintro _ w3 ⟨rfl, G3⟩
 have z6 := G3.size
 refine sd_done<|cnF rfl (fun c2 => ?_) (fun c2 => ?_)
 · replace hm := cnd_f c2 hm
   refine sw_skip<|block_n<|then_n<|qg 3 rfl<|qm rfl<|qv rfl (vv_add (k := .i64) (a := a3) (b := 1) rfl rfl)<|qm rfl ?_
   refine sd_nil ?_
   have K_9 : Kz [] w1 w3 := (K2.gr G3)
   subst hrec1
   exact ⟨rfl, ⟨n1, w64 (a3 + 1)⟩, sbq, ⟨hm, K_9⟩, Nat.lt_succ_self _⟩
 replace hm := cnd_t c2 hm
 refine qs 5 rfl<|qm rfl<|qm rfl ?_
 obtain ⟨y6, hy6, hm⟩ := bnd hm
 have B7 := (B5.gr G3)
 refine qv rfl (vv_ixT (i := a3) Try.underlying32 (one_3).siz rfl (Own.rd B7) rfl hy6)<|qv rfl (vv_el1T (q := 0) (u := .int .i64 y6) one_3 rfl (Own.rd B7) hy6 (by first | rfl | omega) rfl)<|qm rfl<|sd_done<|sw_ret<|block_r<|then_r ?_
 refine then_r<|block_r<|then_r ?_
 have X8 := ((X3.kz K2).trans G3)
 cases hm
 refine ⟨_, _, rfl, res_1 rfl (rv_tmp rfl), ?_⟩
 exact ⟨rfl, X8⟩
theorem ref03_IsSubset_w {p0 p1 r} (hm : ref03_IsSubset p0 p1 = some r) {w : World} :
    Calls Try.prog 138 [.agg (TScheme.cs p0).toArray, .agg (TSubset.cs p1).toArray].toArray w fun e w' => ∃ v, e = .returned v ∧ (v = .bool r ∧ Gr w w') := by
 unfold ref03_IsSubset at hm
 refine calls_of_sw 64 Try.func138 rfl rfl rfl<|qs 3 rfl<|qe rfl (ev_box (cs := TScheme.cs p0) rfl rfl) ?_
 rintro _ w1 ⟨b1, rfl, hbw1, Bw1, G1⟩
 have z1 := G1.size
 have lt2 := Bw1.lt
 refine qe rfl (ev_box (cs := TSubset.cs p1) rfl rfl) ?_
 rintro _ w2 ⟨b2, rfl, hbw2, Bw2, G2⟩
 have z3 := G2.size
 have lt4 := Bw2.lt
 refine qm rfl<|sd_done<|sw_seq<|qs 6 rfl<|qv rfl (vv_fieldAddr fa_26_1 rfl) ?_
 have B5 := (Bw1.gr G2)
 refine qv rfl (vv_load1 (v := .int .i64 p0.Depth) one_3 rfl B5 rfl)<|qv rfl (vv_fieldAddr fa_114_0 rfl)<|qv rfl (vv_load1 (v := .int .i64 p1.Node) one_3 rfl Bw2 rfl) ?_
 obtain ⟨x1, hx1, hm⟩ := bnd hm
 refine qe rfl (eC en_144 rfl (ref03_Node_w hx1)) ?_
 rintro _ w3 ⟨rfl, G3⟩
 have z6 := G3.size
 refine qv rfl (vv_not rfl)<|sd_done<|sw_cond rfl (fun c1 => ?_) (fun c1 => ?_)
 · replace hm := cnd_t c1 hm
   refine qs 1 rfl<|qm rfl<|qb ?_
   have Y1 := Gr.trans (Gr.trans G1 G2) G3
   have X7 := ((Gr.refl w).trans Y1)
   cases hm
   refine ⟨_, _, rfl, res_1 rfl (rv_tmp rfl), ?_⟩
   exact ⟨rfl, X7⟩
 replace hm := cnd_f c1 hm
 refine qu<|sw_seq<|qs 3 rfl<|qv rfl (vv_fieldAddr fa_26_0 rfl) ?_
 have B8 := (B5.gr G3)
 refine qv rfl (vv_load1 (v := bv p0.Kind) one_5 rfl B8 rfl)<|qv rfl (vv_eqlB (p := p0.Kind) (q := 1#8) rfl rfl)<|sd_done<|sw_cond rfl (fun c2 => ?_) (fun c2 => ?_)
 · replace hm := iT c2 hm
   refine qs 4 rfl<|qv rfl (vv_fieldAddr fa_114_1 rfl) ?_
   have B9 := (Bw2.gr G3)
   refine qv rfl (vv_load1 (v := .int .i64 p1.Minus) one_3 rfl B9 rfl)<|qv rfl (vv_eql (a := p1.Minus) (b := 0) rfl rfl)<|qm rfl<|qb ?_
   have Y2 := Gr.trans (Gr.trans G1 G2) G3
   have X10 := ((Gr.refl w).trans Y2)
   cases hm
   refine ⟨_, _, rfl, res_1 rfl (rv_tmp rfl), ?_⟩
   exact ⟨rfl, X10⟩
 replace hm := iF c2 hm
 refine qu<|sw_seq<|qs 3 rfl<|qv rfl (vv_fieldAddr fa_114_1 rfl) ?_
 have B11 := (Bw2.gr G3)
 refine qv rfl (vv_load1 (v := .int .i64 p1.Minus) one_3 rfl B11 rfl)<|qv rfl (vv_eql (a := p1.Minus) (b := 0) rfl rfl)<|sd_done<|sw_cond rfl (fun c3 => ?_) (fun c3 => ?_)
 · replace hm := iT c3 hm
   refine qs 4 rfl<|qv rfl (vv_fieldAddr fa_114_0 rfl)<|qv rfl (vv_load1 (v := .int .i64 p1.Node) one_3 rfl B11 rfl)<|qv rfl (vv_eql (a := p1.Node) (b := 1) rfl rfl)<|qm rfl<|sd_done ?_
   refine sw_ret<|then_r ?_
   have Y3 := Gr.trans (Gr.trans G1 G2) G3
   have X12 := ((Gr.refl w).trans Y3)
   cases hm
   refine ⟨_, _, rfl, res_1 rfl (rv_tmp rfl), ?_⟩
   exact ⟨rfl, X12⟩
 replace hm := iF c3 hm
 refine qu<|sw_seq ?_
 have Y4 := Gr.trans (Gr.trans G1 G2) G3
 have X13 := ((Gr.refl w).trans Y4)
 refine qj (β := Bool) (rg 23 21) (fun a2 => [(43, .bool a2)]) (fun a2 wr => (ref03_IsSubset_J1 p0 p1 a2 = some r) ∧ Kz [] w3 wr) ?_ ?_
 · refine qg 21 rfl<|qv rfl (vv_fieldAddr fa_26_1 rfl)<|qv rfl (vv_load1 (v := .int .i64 p0.Depth) one_3 rfl B8 rfl)<|qv rfl (vv_fieldAddr fa_114_1 rfl)<|qv rfl (vv_load1 (v := .int .i64 p1.Minus) one_3 rfl B11 rfl) ?_
   obtain ⟨x5, hx5, hm⟩ := bnd hm
   refine qe rfl (eC en_144 rfl (ref03_Node_w hx5)) ?_
   rintro _ w7 ⟨rfl, G7⟩
   have z25 := G7.size
   refine qv rfl (vv_not rfl)<|qp rfl (vv_move rfl) (fun c7 => ?_) (fun c7 => ?_)
   · replace hm := cnd_t c7 hm
     refine qk rfl<|qk rfl<|qk rfl<|qk rfl<|qk rfl<|qm rfl<|qm rfl ?_
     refine qk rfl<|qk rfl<|qk rfl<|qk rfl<|qk rfl<|qk rfl<|qm rfl ?_
     refine sd_nil ?_
     exact ⟨rfl, true, sbq, hm, (kz0.gr G7)⟩
   replace hm := cnd_f c7 hm
   refine qv rfl (vv_fieldAddr fa_114_1 rfl) ?_
   have B27 := (B11.gr G7)
   refine qv rfl (vv_load1 (v := .int .i64 p1.Minus) one_3 rfl B27 rfl)<|qv rfl (vv_fieldAddr fa_114_0 rfl)<|qv rfl (vv_load1 (v := .int .i64 p1.Node) one_3 rfl B27 rfl)<|qv rfl (vv_eql (a := p1.Minus) (b := p1.Node) rfl rfl)<|qm rfl<|qp rfl (vv_move rfl) (fun c8 => ?_) (fun c8 => ?_)
   · replace hm := iT c8 hm
     refine qk rfl<|qk rfl<|qk rfl<|qk rfl<|qk rfl<|qk rfl<|qm rfl ?_
     refine sd_nil ?_
     exact ⟨rfl, true, sbq, hm, (kz0.gr G7)⟩
   replace hm := iF c8 hm
   refine qv rfl (vv_fieldAddr fa_114_1 rfl)<|qv rfl (vv_load1 (v := .int .i64 p1.Minus) one_3 rfl B27 rfl)<|qv rfl (vv_fieldAddr fa_114_0 rfl)<|qv rfl (vv_load1 (v := .int .i64 p1.Node) one_3 rfl B27 rfl) ?_
   obtain ⟨x6, hx6, hm⟩ := bnd hm
   refine qe rfl (eC en_145 rfl (ref03_Below_w hx6)) ?_
   rintro _ w8 ⟨rfl, G8⟩
   have z29 := G8.size
   refine qv rfl (vv_not rfl)<|qm rfl<|sd_nil ?_
   exact ⟨rfl, (!x6), sbq, hm, ((kz0.gr G7).gr G8)⟩
 clear hm; rintro a2 w4 ⟨hm, K4⟩
 have z14 := K4.size
 unfold ref03_IsSubset_J1 at hm
 refine sw_cond rfl (fun c4 => ?_) (fun c4 => ?_)
 · replace hm := cnd_t c4 hm
   refine qs 1 rfl<|qm rfl<|qb ?_
   have X15 := (X13.kz K4)
   cases hm
   refine ⟨_, _, rfl, res_1 rfl (rv_tmp rfl), ?_⟩
   exact ⟨rfl, X15⟩
 replace hm := cnd_f c4 hm
 refine qu<|qs 21 rfl<|qv rfl (vv_fieldAddr fa_26_0 rfl) ?_
 have B16 := (B8.kz K4)
 refine qv rfl (vv_load1 (v := bv p0.Kind) one_5 rfl B16 rfl)<|qv rfl (vv_eqlB (p := p0.Kind) (q := 2#8) rfl rfl)<|qp rfl (vv_move rfl) (fun c5 => ?_) (fun c5 => ?_)
 · replace hm := iT c5 hm
   refine qk rfl<|qk rfl<|qk rfl<|qk rfl<|qk rfl<|qm rfl<|qm rfl ?_
   refine qk rfl<|qk rfl<|qk rfl<|qk rfl<|qk rfl<|qk rfl<|qk rfl ?_
   refine qk rfl<|qm rfl<|qm rfl<|sd_done<|sw_ret ?_
   have X17 := (X13.kz K4)
   cases hm
   refine ⟨_, _, rfl, res_1 rfl (rv_tmp rfl), ?_⟩
   exact ⟨rfl, X17⟩
 replace hm := iF c5 hm
 refine qv rfl (vv_fieldAddr fa_26_1 rfl)<|qv rfl (vv_load1 (v := .int .i64 p0.Depth) one_3 rfl B16 rfl)<|qv rfl (vv_fieldAddr fa_114_0 rfl) ?_
 have B18 := (B11.kz K4)
 refine qv rfl (vv_load1 (v := .int .i64 p1.Node) one_3 rfl B18 rfl) ?_
 obtain ⟨x3, hx3, hm⟩ := bnd hm
 refine qe rfl (eC en_146 rfl (ref03_Special_w hx3)) ?_
 rintro _ w5 ⟨rfl, G5⟩
 have z19 := G5.size
 refine qm rfl<|qp rfl (vv_move rfl) (fun c6 => ?_) (fun c6 => ?_)
 · replace hm := cnd_t c6 hm
   refine qk rfl<|qk rfl<|qk rfl<|qk rfl<|qk rfl<|qk rfl<|qk rfl ?_
   refine qk rfl<|qm rfl<|qm rfl<|sd_done<|sw_ret ?_
   have X20 := ((X13.kz K4).trans G5)
   cases hm
   refine ⟨_, _, rfl, res_1 rfl (rv_tmp rfl), ?_⟩
   exact ⟨rfl, X20⟩
 replace hm := cnd_f c6 hm
 refine qv rfl (vv_fieldAddr fa_26_1 rfl) ?_
 have B21 := (B16.gr G5)
 refine qv rfl (vv_load1 (v := .int .i64 p0.Depth) one_3 rfl B21 rfl)<|qv rfl (vv_fieldAddr fa_114_0 rfl) ?_
 have B22 := (B18.gr G5)
 refine qv rfl (vv_load1 (v := .int .i64 p1.Node) one_3 rfl B22 rfl)<|qv rfl (vv_fieldAddr fa_114_1 rfl)<|qv rfl (vv_load1 (v := .int .i64 p1.Minus) one_3 rfl B22 rfl) ?_
 obtain ⟨x4, hx4, hm⟩ := bnd hm
 refine qe rfl (eC en_147 rfl (ref03_between_w hx4)) ?_
 rintro _ w6 ⟨rfl, G6⟩
 have z23 := G6.size
 refine qv rfl (vv_eql (a := x4) (b := 0) rfl rfl)<|qm rfl<|qm rfl<|sd_done<|sw_ret ?_
 have X24 := (((X13.kz K4).trans G5).trans G6)
 cases hm
 refine ⟨_, _, rfl, res_1 rfl (rv_tmp rfl), ?_⟩
 exact ⟨rfl, X24⟩
theorem ref03_LabelsOf_w {p0 p1 r} (hm : ref03_LabelsOf p0 p1 = some r) {w : World} :
    Calls Try.prog 116 [.agg (TScheme.cs p0).toArray, .int .i64 p1].toArray w fun e w' => ∃ v, e = .returned v ∧ (∃ ur0_s zr0_s gr0_s, v = ur0_s ∧ Own w' zr0_s gr0_s 114 2 ur0_s (r.map TSubset.cs) ∧ Hdn (zr0_s = 0 ∨ w.heap.size ≤ gr0_s) ∧ Gr w w') := by
 unfold ref03_LabelsOf at hm
 refine calls_of_sw 71 Try.func116 rfl rfl rfl<|qs 2 rfl<|qe rfl (ev_box (cs := TScheme.cs p0) rfl rfl) ?_
 rintro _ w1 ⟨b1, rfl, hbw1, Bw1, G1⟩
 have z1 := G1.size
 have lt2 := Bw1.lt
 refine qm rfl<|qd 1 rfl<|qm rfl<|sd_done<|sw_seq ?_
 refine qg 7 rfl<|qv rfl (vv_fieldAddr fa_26_1 rfl)<|qv rfl (vv_load1 (v := .int .i64 p0.Depth) one_3 rfl Bw1 rfl) ?_
 obtain ⟨x1, hx1, hm⟩ := bnd hm
 refine qe rfl (eC en_77 rfl (ref03_Receivers_w hx1)) ?_
 rintro _ w2 ⟨rfl, G2⟩
 have z3 := G2.size
 refine qm rfl<|qv rfl (vv_add (k := .i64) (a := x1) (b := p1) rfl rfl) ?_
 obtain ⟨x2, hx2, hm⟩ := bnd hm
 refine qe rfl (eC en_137 rfl (ref03_Path_w hx2)) ?_
 rintro u3_r0_s w3 ⟨_, z3_r0_s, g3_r0_s, rfl, O3_r0_s, f3_r0_s, G3⟩
 have z4 := G3.size
 have lt5 := O3_r0_s.lth
 refine qm rfl<|sd_done<|sw_seq<|qs 3 rfl<|qv rfl (vv_fieldAddr fa_26_0 rfl) ?_
 have B6 := ((Bw1.gr G2).gr G3)
 refine qv rfl (vv_load1 (v := bv p0.Kind) one_5 rfl B6 rfl)<|qv rfl (vv_eqlB (p := p0.Kind) (q := 1#8) rfl rfl)<|sd_done<|sw_cond rfl (fun c1 => ?_) (fun c1 => ?_)
 · replace hm := iT c1 hm
   refine sw_seq<|qs 1 rfl<|qm rfl<|sd_done<|sw_block ?_
   have X7 := ((((Gr.refl w).trans G1).trans G2).trans G3)
   refine sw_loopD (α := Nat × List TSubset × Int × Value × Nat × Nat) ([5, 7] ++ rg 20 14) (fun ⟨n1, a6, a8, vy7, zy7, gy7⟩ => [(5, vy7), (7, .int .i64 a8)]) (fun ⟨n1, a6, a8, vy7, zy7, gy7⟩ wr => (fixN (ref03_LabelsOf_L1 x2) n1 (a6, a8) = some r) ∧ Own wr zy7 gy7 114 2 vy7 (a6.map TSubset.cs) ∧ Hdn (zy7 = 0 ∨ w3.heap.size ≤ gy7) ∧ Kz [] w3 wr) (fun ⟨n1, a6, a8, vy7, zy7, gy7⟩ => n1) ⟨FUEL, [], 0, (.slice none 0 0), 0, 0⟩ ?_ ?_ ?_
   · exact sbq
   · exact ⟨hm, (own_nil _ 0 114 2), ⟨(.inl rfl)⟩, Kz.refl _ _⟩
   clear hm; rintro ⟨n1, a6, a8, vy7, zy7, gy7⟩ w4 ⟨hm, Fw4_0, Fw4_1, K4⟩
   have z8 := K4.size
   have lt9 := Fw4_0.lth
   have hb := fix_succ hm; clear hm; obtain ⟨n1, rfl, hm⟩ := hb
   generalize hrec1 : fixN (ref03_LabelsOf_L1 x2) n1 = rec1 at hm
   unfold ref03_LabelsOf_L1 at hm
   try dsimp only at hm
   refine sw_seq<|qs 4 rfl<|qm rfl<|qm rfl ?_
   have B10 := (O3_r0_s.kz K4)
   refine qv rfl (vv_lenT (l := x2) (c := ic) Try.underlying32 rfl (Own.rd B10))<|qv rfl (vv_lss (a := a8) (b := (x2.length : Int)) rfl rfl)<|sd_done<|cnF rfl (fun c2 => ?_) (fun c2 => ?_)
   · replace hm := iF c2 hm
     refine sw_exit<|then_x<|then_x<|block_x<|then_n<|qs 2 rfl ?_
     refine qm rfl<|qm rfl<|qb ?_
     have X16 := (X7.kz K4)
     cases hm
     refine ⟨_, _, rfl, res_1 rfl (rv_tmp rfl), ?_⟩
     exact ⟨vy7, zy7, gy7, rfl, Fw4_0, ⟨(pv_0 (A := (fun x => w.heap.size ≤ x)) Fw4_1)⟩, X16⟩
   replace hm := iT c2 hm
   refine qu<|sw_seq<|sw_block<|qg 9 rfl<|qm rfl<|qm rfl ?_
   refine qm rfl ?_
   obtain ⟨y9, hy9, hm⟩ := bnd hm
   refine qv rfl (vv_ixT (i := a8) Try.underlying32 (one_3).siz rfl (Own.rd B10) rfl hy9)<|qv rfl (vv_el1T (q := 0) (u := .int .i64 y9) one_3 rfl (Own.rd B10) hy9 (by first | rfl | omega) rfl)<|qv rfl (vv_build (cs := TSubset.cs (TSubset.mk y9 0)) bs_114 rfl rfl)<|qe rfl (ev_litT [(TSubset.mk y9 0)] TSubset.cs bsl_74_1 rfl rfl (ws_of rfl) rfl rfl rfl) ?_
   rintro vw5 w5 ⟨gw5, hbw5, Ow5, G5⟩
   have z11 := G5.size
   have lt12 := Ow5.lth
   have B13 := (Fw4_0.gr G5)
   obtain ⟨l10, hl10, hm⟩ := bnd hm
   refine qe rfl (ev_appT (l := a6) (m := [(TSubset.mk y9 0)]) (c := TSubset.cs) apt_74 rfl rfl B13 (Own.rd Ow5) hl10 (by decide)) ?_
   rintro vw6 w6 ⟨zw6, gw6, Ow6, Aw6, qw6, rw6⟩
   have z14 := Aw6.size
   refine qm rfl<|sd_nil<|block_n<|then_n<|qg 3 rfl<|qm rfl<|qv rfl (vv_add (k := .i64) (a := a8) (b := 1) rfl rfl) ?_
   refine qm rfl<|sd_nil ?_
   have K_15 : Kz [] w3 w6 := ((K4.gr G5).ka Aw6 (tk1 (pv_0 (A := (fun x => w3.heap.size ≤ x)) Fw4_1)))
   subst hrec1
   exact ⟨rfl, ⟨n1, l10, w64 (a8 + 1), vw6, zw6, gw6⟩, sbq, ⟨hm, Ow6, ⟨(pv_app (A := (fun x => w3.heap.size ≤ x)) rw6 (pv_0 (A := (fun x => w3.heap.size ≤ x)) Fw4_1))⟩, K_15⟩, Nat.lt_succ_self _⟩
 replace hm := iF c1 hm
 refine qu<|qs 5 rfl<|qm rfl<|qv rfl (vv_build (cs := TSubset.cs (TSubset.mk 1 0)) bs_114 rfl rfl)<|qe rfl (ev_litT [(TSubset.mk 1 0)] TSubset.cs bsl_74_1 rfl rfl (ws_of rfl) rfl rfl rfl) ?_
 rintro vw7 w7 ⟨gw7, hbw7, Ow7, G7⟩
 have z17 := G7.size
 have lt18 := Ow7.lth
 obtain ⟨l11, hl11, hm⟩ := bnd hm
 refine qe rfl (ev_appT (l := ([] : List TSubset)) (m := [(TSubset.mk 1 0)]) (c := TSubset.cs) apt_74 rfl rfl (own_nil _ 0 114 2) (Own.rd Ow7) hl11 (by decide)) ?_
 rintro vw8 w8 ⟨zw8, gw8, Ow8, Aw8, qw8, rw8⟩
 have z19 := Aw8.size
 refine qm rfl<|sd_done<|sw_seq<|qs 1 rfl<|qm rfl<|sd_done ?_
 refine sw_block ?_
 have X20 := ((((((Gr.refl w).trans G1).trans G2).trans G3).trans G7).ka Aw8)
 have B21 := ((O3_r0_s.gr G7).ka Aw8)
 have B22 := (Ow7.ka Aw8)
 refine sw_loopD (α := Nat × List TSubset × Int × Value × Nat × Nat) ([5, 8, 9, 10] ++ rg 39 31) (fun ⟨n2, a15, a17, vy16, zy16, gy16⟩ => [(5, vy16), (8, .int .i64 a17)]) (fun ⟨n2, a15, a17, vy16, zy16, gy16⟩ wr => (fixN (ref03_LabelsOf_L2 p0 x2) n2 (a15, a17) = some r) ∧ Own wr zy16 gy16 114 2 vy16 (a15.map TSubset.cs) ∧ Hdn (zy16 = 0 ∨ (gy16 = gw8 ∧ zw8 ≠ 0) ∨ w8.heap.size ≤ gy16) ∧ Kz [(zw8, gw8)] w8 wr) (fun ⟨n2, a15, a17, vy16, zy16, gy16⟩ => n2) ⟨FUEL, l11, 0, vw8, zw8, gw8⟩ ?_ ?_ ?_
 · exact sbq
 · exact ⟨hm, Ow8, ⟨tk0⟩, Kz.refl _ _⟩
 clear hm; rintro ⟨n2, a15, a17, vy16, zy16, gy16⟩ w9 ⟨hm, Fw9_0, Fw9_1, K9⟩
 have z23 := K9.size
 have lt24 := Fw9_0.lth
 have hb := fix_succ hm; clear hm; obtain ⟨n2, rfl, hm⟩ := hb
 generalize hrec2 : fixN (ref03_LabelsOf_L2 p0 x2) n2 = rec2 at hm
 unfold ref03_LabelsOf_L2 at hm
 try dsimp only at hm
 refine sw_seq<|qs 4 rfl<|qm rfl<|qm rfl ?_
 have B25 := (B21.kz K9 (tk1 ((pv_sw (pv_app (A := (fun x => z3_r0_s = 0 ∨ x ≠ g3_r0_s)) rw8 (.inl rfl) (fun x hx => (tk1 lt5.o)))) : z3_r0_s = 0 ∨ zw8 = 0 ∨ g3_r0_s ≠ gw8)))
 refine qv rfl (vv_lenT (l := x2) (c := ic) Try.underlying32 rfl (Own.rd B25))<|qv rfl (vv_lss (a := a17) (b := (x2.length : Int)) rfl rfl)<|sd_done<|cnF rfl (fun c3 => ?_) (fun c3 => ?_)
 · replace hm := iF c3 hm
   refine sw_exit<|then_x<|then_x<|block_x<|then_n<|qs 2 rfl ?_
   refine qm rfl<|qm rfl<|sd_done<|sw_ret ?_
   have X46 := (X20.kz K9 (tk1 (pv_app (A := (fun x => w.heap.size ≤ x)) rw8 (.inl rfl))))
   cases hm
   refine ⟨_, _, rfl, res_1 rfl (rv_tmp rfl), ?_⟩
   exact ⟨vy16, zy16, gy16, rfl, Fw9_0, ⟨(pv_1 (A := (fun x => w.heap.size ≤ x)) Fw9_1 (pv_app (A := (fun x => w.heap.size ≤ x)) rw8 (.inl rfl)))⟩, X46⟩
 replace hm := iT c3 hm
 refine qu<|sw_seq<|sw_block<|qs 3 rfl<|qm rfl ?_
 refine qv rfl (vv_add (k := .i64) (a := a17) (b := 1) rfl rfl)<|qm rfl<|sd_done<|sw_block ?_
 have X26 := (X20.kz K9 (tk1 (pv_app (A := (fun x => w.heap.size ≤ x)) rw8 (.inl rfl))))
 have B27 := (B22.kz K9 (tk1 ((pv_sw (pv_app (A := (fun x => 1 = 0 ∨ x ≠ gw7)) rw8 (.inl rfl) (fun x hx => (tk1 lt18.o)))) : 1 = 0 ∨ zw8 = 0 ∨ gw7 ≠ gw8)))
 refine sw_loopD (α := Nat × List TSubset × Int × Value × Nat × Nat) ([5, 9, 10] ++ rg 47 23) (fun ⟨n3, a21, a23, vy22, zy22, gy22⟩ => [(5, vy22), (9, .int .i64 a23)]) (fun ⟨n3, a21, a23, vy22, zy22, gy22⟩ wr => (fixN (ref03_LabelsOf_L3 p0 x2 a17 rec2) n3 (a21, a23) = some r) ∧ Own wr zy22 gy22 114 2 vy22 (a21.map TSubset.cs) ∧ Hdn (zy22 = 0 ∨ (gy22 = gy16 ∧ zy16 ≠ 0) ∨ w9.heap.size ≤ gy22) ∧ Kz [(zy16, gy16)] w9 wr) (fun ⟨n3, a21, a23, vy22, zy22, gy22⟩ => n3) ⟨FUEL, a15, w64 (a17 + 1), vy16, zy16, gy16⟩ ?_ ?_ ?_
 · exact sbq
 · exact ⟨hm, Fw9_0, ⟨tk0⟩, Kz.refl _ _⟩
 clear hm; rintro ⟨n3, a21, a23, vy22, zy22, gy22⟩ w10 ⟨hm, Fw10_0, Fw10_1, K10⟩
 have z28 := K10.size
 have lt29 := Fw10_0.lth
 have hb := fix_succ hm; clear hm; obtain ⟨n3, rfl, hm⟩ := hb
 generalize hrec3 : fixN (ref03_LabelsOf_L3 p0 x2 a17 rec2) n3 = rec3 at hm
 unfold ref03_LabelsOf_L3 at hm
 try dsimp only at hm
 refine sw_seq<|qs 4 rfl<|qm rfl<|qm rfl ?_
 have B30 := (B25.kz K10 (tk1 ((pv_sw (pv_1 (A := (fun x => z3_r0_s = 0 ∨ x ≠ g3_r0_s)) Fw9_1 (pv_app (A := (fun x => z3_r0_s = 0 ∨ x ≠ g3_r0_s)) rw8 (.inl rfl) (fun x hx => (tk1 lt5.o))) (fun x hx => (tk1 lt5.o)))) : z3_r0_s = 0 ∨ zy16 = 0 ∨ g3_r0_s ≠ gy16)))
 refine qv rfl (vv_lenT (l := x2) (c := ic) Try.underlying32 rfl (Own.rd B30))<|qv rfl (vv_lss (a := a23) (b := (x2.length : Int)) rfl rfl)<|sd_done<|cnF rfl (fun c4 => ?_) (fun c4 => ?_)
 · replace hm := iF c4 hm
   refine sw_exit<|then_x<|then_x<|block_x<|block_n<|then_n<|qg 3 rfl ?_
   refine qm rfl<|qv rfl (vv_add (k := .i64) (a := a17) (b := 1) rfl rfl)<|qm rfl<|sd_nil ?_
   have K_45 : Kz [(zw8, gw8)] w8 w10 := (K9.kz K10 (tk1 (pv_1 (A := (fun x => (x = gw8 ∧ zw8 ≠ 0) ∨ w8.heap.size ≤ x)) Fw9_1 tk0)))
   subst hrec2
   exact ⟨rfl, ⟨n2, a21, w64 (a17 + 1), vy22, zy22, gy22⟩, sbq, ⟨hm, Fw10_0, ⟨(pv_1 (A := (fun x => (x = gw8 ∧ zw8 ≠ 0) ∨ w8.heap.size ≤ x)) Fw10_1 (pv_1 (A := (fun x => (x = gw8 ∧ zw8 ≠ 0) ∨ w8.heap.size ≤ x)) Fw9_1 tk0))⟩, K_45⟩, Nat.lt_succ_self _⟩
 replace hm := iT c4 hm
 refine qu<|sw_seq<|sw_block<|sw_seq<|dw [([])] [] (.leaf [(0,10),(1,10),(2,10),(3,10),(4,10),(5,10),(6,10),(7,10),(8,10),(9,10),(10,0),(11,0)]) ?_
 intro w11 G11 zw11
 refine sdz_leaf<|dm 0 rfl rfl<|dm 0 rfl rfl ?_
 obtain ⟨y24, hy24, hm⟩ := bnd hm
 have B31 := (B30.gr G11)
 refine dh 0 rfl rfl (fun w hS => vv_ixT (i := a17) Try.underlying32 (one_3).siz rfl (Own.rd (Own.kp B31 hS)) rfl hy24)<|dh 0 rfl rfl (fun w hS => vv_el1T (q := 0) (u := .int .i64 y24) one_3 rfl (Own.rd (Own.kp B31 hS)) hy24 (by first | rfl | omega) rfl)<|dm 0 rfl rfl<|dm 0 rfl rfl ?_
 obtain ⟨y25, hy25, hm⟩ := bnd hm
 refine dh 0 rfl rfl (fun w hS => vv_ixT (i := a23) Try.underlying32 (one_3).siz rfl (Own.rd (Own.kp B31 hS)) rfl hy25)<|dh 0 rfl rfl (fun w hS => vv_el1T (q := 0) (u := .int .i64 y25) one_3 rfl (Own.rd (Own.kp B31 hS)) hy25 (by first | rfl | omega) rfl)<|dh 0 rfl rfl (fun w hS => vv_bitI (a := y25) (b := 1) (by simp) rfl rfl)<|dh 0 rfl rfl (fun w hS => vv_build (cs := TSubset.cs (TSubset.mk y24 (bitI .xor y25 1))) bs_114 rfl rfl)<|qz [] rfl (ev_alloc (cs := TSubset.cs (TSubset.mk 0 0)) zv_114 rfl) ⟨fun _ => tk0, trivial⟩ ?_
 rintro _ w12 ⟨b12, rfl, hbw12, Bw12, G12⟩
 have z32 := G12.size
 have lt33 := Bw12.lt
 refine kG G12<|qz [(1, b12)] rfl (ev_stW agg_114 rfl rfl rfl Bw12 rfl rfl) ⟨fun _ => tk0, trivial⟩ ?_
 rintro _ w13 ⟨Bw13, M13⟩
 have z34 := M13.size
 refine kM M13<|qd 3 rfl ?_
 have Y1 := Gr.trans G11 G12
 have B35 := ((((((B6.gr G7).ka Aw8).kz K9 (tk1 (pb_app (b := b1) rw8 (.inl rfl)))).kz K10 (tk1 (pb_1 (b := b1) Fw9_1 (pb_app rw8 (.inl rfl))))).gr Y1).md M13)
 refine qv rfl (vv_loadW agg_26 rfl B35 rfl)<|qv rfl (vv_loadW agg_114 rfl Bw13 rfl) ?_
 obtain ⟨x26, hx26, hm⟩ := bnd hm
 refine qe rfl (eC en_138 rfl (ref03_IsSubset_w hx26)) ?_
 rintro _ w14 ⟨rfl, G14⟩
 have z36 := G14.size
 refine sd_done<|cnF rfl (fun c5 => ?_) (fun c5 => ?_)
 · replace hm := cnd_f c5 hm
   refine sw_skip<|block_n<|then_n<|qg 3 rfl<|qm rfl<|qv rfl (vv_add (k := .i64) (a := a23) (b := 1) rfl rfl)<|qm rfl ?_
   refine sd_nil ?_
   have K_43 : Kz [(zy16, gy16)] w9 w14 := (((K10.gr Y1).md M13).gr G14)
   have B44 := (((Fw10_0.gr Y1).md M13 (pb_lt lt29)).gr G14)
   subst hrec3
   exact ⟨rfl, ⟨n3, a21, w64 (a23 + 1), vy22, zy22, gy22⟩, sbq, ⟨hm, B44, ⟨(pv_1 (A := (fun x => (x = gy16 ∧ zy16 ≠ 0) ∨ w9.heap.size ≤ x)) Fw10_1 tk0)⟩, K_43⟩, Nat.lt_succ_self _⟩
 replace hm := cnd_t c5 hm
 refine qg 5 rfl<|qm rfl ?_
 have B37 := (Bw13.gr G14)
 refine qv rfl (vv_loadW agg_114 rfl B37 rfl)<|qe rfl (ev_litT [(TSubset.mk y24 (bitI .xor y25 1))] TSubset.cs bsl_74_1 rfl rfl (ws_of rfl) rfl rfl rfl) ?_
 rintro vw15 w15 ⟨gw15, hbw15, Ow15, G15⟩
 have z38 := G15.size
 have lt39 := Ow15.lth
 have B40 := ((((Fw10_0.gr Y1).md M13 (pb_lt lt29)).gr G14).gr G15)
 obtain ⟨l27, hl27, hm⟩ := bnd hm
 refine qe rfl (ev_appT (l := a21) (m := [(TSubset.mk y24 (bitI .xor y25 1))]) (c := TSubset.cs) apt_74 rfl rfl B40 (Own.rd Ow15) hl27 (by decide)) ?_
 rintro vw16 w16 ⟨zw16, gw16, Ow16, Aw16, qw16, rw16⟩
 have z41 := Aw16.size
 refine qm rfl<|sd_nil<|block_n<|then_n<|qg 3 rfl<|qm rfl<|qv rfl (vv_add (k := .i64) (a := a23) (b := 1) rfl rfl) ?_
 refine qm rfl<|sd_nil ?_
 have K_42 : Kz [(zy16, gy16)] w9 w16 := (((((K10.gr Y1).md M13).gr G14).gr G15).ka Aw16 (tk1 (pv_1 (A := (fun x => (x = gy16 ∧ zy16 ≠ 0) ∨ w9.heap.size ≤ x)) Fw10_1 tk0)))
 subst hrec3
 exact ⟨rfl, ⟨n3, l27, w64 (a23 + 1), vw16, zw16, gw16⟩, sbq, ⟨hm, Ow16, ⟨(pv_app (A := (fun x => (x = gy16 ∧ zy16 ≠ 0) ∨ w9.heap.size ≤ x)) rw16 (pv_1 (A := (fun x => (x = gy16 ∧ zy16 ≠ 0) ∨ w9.heap.size ≤ x)) Fw10_1 tk0))⟩, K_42⟩, Nat.lt_succ_self _⟩
theorem ref03_Storage_w {p0 r} (hm : ref03_Storage p0 = some r) {w : World} :
    Calls Try.prog 94 [.agg (TScheme.cs p0).toArray].toArray w fun e w' => ∃ v, e = .returned v ∧ (v = .tuple [.int .i64 r.1, .int .i64 r.2].toArray ∧ Gr w w') := by
 unfold ref03_Storage at hm
 refine calls_of_sw 10 Try.func94 rfl rfl rfl<|qs 3 rfl<|qe rfl (ev_box (cs := TScheme.cs p0) rfl rfl) ?_
 rintro _ w1 ⟨b1, rfl, hbw1, Bw1, G1⟩
 have z1 := G1.size
 have lt2 := Bw1.lt
 refine qm rfl<|qm rfl<|sd_done<|sw_seq<|qs 3 rfl<|qv rfl (vv_loadW agg_26 rfl Bw1 rfl) ?_
 obtain ⟨x1, hx1, hm⟩ := bnd hm
 refine qe rfl (eC en_89 rfl (ref03_Valid_w hx1)) ?_
 rintro _ w2 ⟨rfl, G2⟩
 have z3 := G2.size
 refine qv rfl (vv_not rfl)<|sd_done<|sw_cond rfl (fun c1 => ?_) (fun c1 => ?_)
 · replace hm := cnd_t c1 hm
   refine qs 2 rfl<|qm rfl<|qm rfl<|sd_done<|sw_ret<|then_r ?_
   have X4 := (((Gr.refl w).trans G1).trans G2)
   cases hm
   refine ⟨_, _, rfl, res_2 rfl (rv_tmp rfl) (rv_tmp rfl), ?_⟩
   exact ⟨rfl, X4⟩
 replace hm := cnd_f c1 hm
 refine qu<|qs 5 rfl ?_
 have B5 := (Bw1.gr G2)
 refine qv rfl (vv_loadW agg_26 rfl B5 rfl) ?_
 obtain ⟨x2, hx2, hm⟩ := bnd hm
 refine qe rfl (eC en_116 rfl (ref03_LabelsOf_w hx2)) ?_
 rintro u3_r0_s w3 ⟨_, z3_r0_s, g3_r0_s, rfl, O3_r0_s, f3_r0_s, G3⟩
 have z6 := G3.size
 have lt7 := O3_r0_s.lth
 refine qv rfl (vv_lenT (l := x2) (c := TSubset.cs) Try.underlying74 rfl (Own.rd O3_r0_s))<|qm rfl<|qm rfl<|sd_done<|sw_ret ?_
 have X8 := ((((Gr.refl w).trans G1).trans G2).trans G3)
 cases hm
 refine ⟨_, _, rfl, res_2 rfl (rv_tmp rfl) (rv_tmp rfl), ?_⟩
 exact ⟨rfl, X8⟩
theorem ref10_Chosen_w {p0 p1 r} (hm : ref10_Chosen p0 p1 = some r) {w : World} :
    Calls Try.prog 57 [.agg (TNeed.cs p0).toArray, bv p1].toArray w fun e w' => ∃ v, e = .returned v ∧ (∃ ur0_7 zr0_7 gr0_7, v = .agg (TChoice.cs r ur0_7).toArray ∧ Own w' zr0_7 gr0_7 3 1 ur0_7 (r.Witness.map ic) ∧ Hdn (zr0_7 = 0 ∨ w.heap.size ≤ gr0_7) ∧ Gr w w') := by
 unfold ref10_Chosen at hm
 refine calls_of_sw 80 Try.func57 rfl rfl rfl<|qs 2 rfl<|qe rfl (ev_box (cs := TNeed.cs p0) rfl rfl) ?_
 rintro _ w1 ⟨b1, rfl, hbw1, Bw1, G1⟩
 have z1 := G1.size
 have lt2 := Bw1.lt
 refine qe rfl (ev_alloc (cs := TChoice.cs (TChoice.mk 0#8 false 0 0 0 0 0 []) (.slice none 0 0)) zv_52 rfl) ?_
 rintro _ w2 ⟨b2, rfl, hbw2, Bw2, G2⟩
 have z3 := G2.size
 have lt4 := Bw2.lt
 refine qd 5 rfl ?_
 have B5 := (Bw1.gr G2)
 refine qv rfl (vv_loadW agg_50 rfl B5 rfl)<|qm rfl ?_
 obtain ⟨x1, hx1, hm⟩ := bnd hm
 refine qe rfl (eC en_92 rfl (ref10_SchemeOf_w hx1)) ?_
 rintro _ w3 ⟨rfl, G3⟩
 have z6 := G3.size
 refine qe rfl (ev_alloc (cs := TScheme.cs (TScheme.mk 0#8 0 0 (TGroup.mk 0#64 0#64 0#64))) zv_26 rfl) ?_
 rintro _ w4 ⟨b4, rfl, hbw4, Bw4, G4⟩
 have z7 := G4.size
 have lt8 := Bw4.lt
 refine qe rfl (ev_stW agg_26 rfl rfl rfl Bw4 rfl rfl) ?_
 rintro _ w5 ⟨Bw5, M5⟩
 have z9 := M5.size
 refine qd 4 rfl<|qm rfl<|qv rfl (vv_build (cs := TChoice.cs (TChoice.mk p1 false 0 0 0 0 0 []) (.slice none 0 0)) bs_52 rfl rfl)<|qe rfl (ev_alloc (cs := TChoice.cs (TChoice.mk 0#8 false 0 0 0 0 0 []) (.slice none 0 0)) zv_52 rfl) ?_
 rintro _ w6 ⟨b6, rfl, hbw6, Bw6, G6⟩
 have z10 := G6.size
 have lt11 := Bw6.lt
 refine qe rfl (ev_stW agg_52 rfl rfl (TChoice.cs_ones _ _ rfl) Bw6 rfl rfl) ?_
 rintro _ w7 ⟨Bw7, M7⟩
 have z12 := M7.size
 refine sd_done ?_
 have X13 := ((((((((Gr.refl w).trans G1).trans G2).trans G3).trans G4).md M5).trans G6).md M7)
 refine qj (β := Int × Int × Int × List Int × Value × Nat × Nat) ([7, 8] ++ rg 14 31) (fun ⟨a2, a3, a4, a5, vy6, zy6, gy6⟩ => []) (fun ⟨a2, a3, a4, a5, vy6, zy6, gy6⟩ wr => (ref10_Chosen_J1 p0 p1 a2 a3 a4 a5 = some r) ∧ Own wr zy6 gy6 3 1 vy6 (a5.map ic) ∧ Hdn (zy6 = 0 ∨ w7.heap.size ≤ gy6) ∧ Bx wr b6 52 (TChoice.cs (TChoice.mk p1 false a2 a3 0 a4 0 a5) vy6) ∧ Kz [(1, b6)] w7 wr) ?_ ?_
 · refine qs 2 rfl<|qm rfl<|qv rfl (vv_eqlB (p := p1) (q := 4#8) rfl rfl)<|sd_done<|sw_cond rfl (fun c1 => ?_) (fun c1 => ?_)
   · replace hm := iT c1 hm
     refine sw_seq<|qs 3 rfl ?_
     have B31 := ((Bw5.gr G6).md M7)
     refine qv rfl (vv_loadW agg_26 rfl B31 rfl) ?_
     obtain ⟨x8, hx8, hm⟩ := bnd hm
     refine qe rfl (eC en_93 rfl (ref04_Valid_w hx8)) ?_
     rintro _ w15 ⟨rfl, G15⟩
     have z32 := G15.size
     refine qv rfl (vv_not rfl)<|sd_done<|sw_cond rfl (fun c2 => ?_) (fun c2 => ?_)
     · replace hm := cnd_t c2 hm
       refine qs 2 rfl ?_
       have B33 := (Bw7.gr G15)
       refine qv rfl (vv_loadW agg_52 rfl B33 rfl) ?_
       have Y1 := Gr.trans G3 G4
       have B34 := (((((Bw2.gr Y1).md M5).gr G6).md M7).gr G15)
       refine qe rfl (ev_stW agg_52 rfl rfl (TChoice.cs_ones _ _ rfl) B34 rfl rfl) ?_
       rintro _ w16 ⟨Bw16, M16⟩
       have z35 := M16.size
       refine qb<|then_r ?_
       have X36 := ((X13.trans G15).md M16)
       cases hm
       refine ⟨_, _, rfl, res_1 rfl (rv_cellW agg_52 rfl Bw16 rfl), ?_⟩
       exact ⟨(.slice none 0 0), 0, 0, rfl, (own_nil _ 0 3 1), ⟨.inl rfl⟩, X36⟩
     replace hm := cnd_f c2 hm
     refine qu<|qs 4 rfl<|qv rfl (vv_fieldAddr fa_26_2 rfl) ?_
     have B37 := (B31.gr G15)
     refine qv rfl (vv_load1 (v := .int .i64 x1.Degree) one_3 rfl B37 rfl)<|qv rfl (vv_fieldAddr fa_52_3 rfl) ?_
     have B38 := (Bw7.gr G15)
     refine qe rfl (ev_st1 (cs' := TChoice.cs (TChoice.mk p1 false 0 x1.Degree 0 0 0 []) (.slice none 0 0)) (one_3).siz rfl rfl rfl B38 rfl rfl) ?_
     rintro _ w17 ⟨Bw17, M17⟩
     have z39 := M17.size
     refine sd_done<|qg 2 rfl<|qv rfl (vv_fieldAddr fa_52_5 rfl)<|qe rfl (ev_st1 (cs' := TChoice.cs (TChoice.mk p1 false 0 x1.Degree 0 8 0 []) (.slice none 0 0)) (one_3).siz rfl rfl rfl Bw17 rfl rfl) ?_
     rintro _ w18 ⟨Bw18, M18⟩
     have z40 := M18.size
     refine sd_nil ?_
     exact ⟨rfl, ⟨0, x1.Degree, 8, [], (.slice none 0 0), 0, 0⟩, sbq, hm, (own_nil _ 0 3 1), ⟨(.inl rfl)⟩, Bw18, (((Kz.gr (Kz.refl _ _) G15).md M17).md M18)⟩
   replace hm := iF c1 hm
   refine qs 7 rfl ?_
   have B42 := ((Bw5.gr G6).md M7)
   refine qv rfl (vv_loadW agg_26 rfl B42 rfl) ?_
   obtain ⟨x9, hx9, hm⟩ := bnd hm
   refine qe rfl (eC en_94 rfl (ref03_Storage_w hx9)) ?_
   rintro _ w19 ⟨rfl, G19⟩
   have z43 := G19.size
   refine qm rfl<|qm rfl<|qm rfl<|qm rfl<|qm rfl<|sd_done<|sw_seq ?_
   refine qg 9 rfl ?_
   have B44 := (B42.gr G19)
   refine qv rfl (vv_loadW agg_26 rfl B44 rfl)<|qv rfl (vv_fieldAddr fa_50_1 rfl) ?_
   have Y2 := Gr.trans G3 G4
   have B45 := (((((B5.gr Y2).md M5).gr G6).md M7).gr G19)
   refine qv rfl (vv_load1 (v := .int .i64 p0.Revoked) one_3 rfl B45 rfl) ?_
   obtain ⟨x10, hx10, hm⟩ := bnd hm
   refine qe rfl (eC en_15 rfl (ref10_Worst_w hx10)) ?_
   rintro _ w20 ⟨rfl, G20⟩
   have z46 := G20.size
   refine qm rfl<|qm rfl<|qm rfl<|qv rfl (vv_fieldAddr fa_52_2 rfl) ?_
   have B47 := ((Bw7.gr G19).gr G20)
   refine qe rfl (ev_st1 (cs' := TChoice.cs (TChoice.mk p1 false x10.1 0 0 0 0 []) (.slice none 0 0)) (one_3).siz rfl rfl rfl B47 rfl rfl) ?_
   rintro _ w21 ⟨Bw21, M21⟩
   have z48 := M21.size
   refine qd 4 rfl<|qm rfl<|qv rfl (vv_mul (k := .i64) (a := 16) (b := x9.1) rfl rfl)<|qv rfl (vv_fieldAddr fa_52_5 rfl)<|qe rfl (ev_st1 (cs' := TChoice.cs (TChoice.mk p1 false x10.1 0 0 (w64 (16 * x9.1)) 0 []) (.slice none 0 0)) (one_3).siz rfl rfl rfl Bw21 rfl rfl) ?_
   rintro _ w22 ⟨Bw22, M22⟩
   have z49 := M22.size
   refine sd_done<|qg 6 rfl ?_
   have B50 := (((B44.gr G20).md M21).md M22)
   refine qv rfl (vv_loadW agg_26 rfl B50 rfl)<|qv rfl (vv_fieldAddr fa_50_1 rfl) ?_
   have B51 := (((B45.gr G20).md M21).md M22)
   refine qv rfl (vv_load1 (v := .int .i64 p0.Revoked) one_3 rfl B51 rfl) ?_
   obtain ⟨x11, hx11, hm⟩ := bnd hm
   refine qe rfl (eC en_44 rfl (ref10_WitnessOf_w hx11)) ?_
   rintro u23_r0_s w23 ⟨_, z23_r0_s, g23_r0_s, rfl, O23_r0_s, f23_r0_s, G23⟩
   have z52 := G23.size
   have lt53 := O23_r0_s.lth
   refine qv rfl (vv_fieldAddr fa_52_7 rfl) ?_
   have B54 := (Bw22.gr G23)
   refine qe rfl (ev_st1 (cs' := TChoice.cs (TChoice.mk p1 false x10.1 0 0 (w64 (16 * x9.1)) 0 x11) u23_r0_s) (one_32).siz rfl rfl (Own.oneB O23_r0_s) B54 rfl rfl) ?_
   rintro _ w24 ⟨Bw24, M24⟩
   have z55 := M24.size
   refine sd_nil ?_
   have K_56 : Kz [(1, b6)] w7 w24 := ((((((Kz.gr (Kz.refl _ _) G19).gr G20).md M21).md M22).gr G23).md M24)
   have B57 := (O23_r0_s.md M24 (pb_0 f23_r0_s))
   exact ⟨rfl, ⟨x10.1, 0, w64 (16 * x9.1), x11, u23_r0_s, z23_r0_s, g23_r0_s⟩, sbq, hm, B57, ⟨(pv_0 (A := (fun x => w7.heap.size ≤ x)) f23_r0_s)⟩, Bw24, K_56⟩
 clear hm; rintro ⟨a2, a3, a4, a5, vy6, zy6, gy6⟩ w8 ⟨hm, Fw8_0, Fw8_1, Fw8_2, K8⟩
 have z14 := K8.size
 have lt15 := Fw8_0.lth
 have lt16 := Fw8_2.lt
 unfold ref10_Chosen_J1 at hm
 refine qs 10 rfl<|qv rfl (vv_fieldAddr fa_52_2 rfl)<|qv rfl (vv_load1 (v := .int .i64 a2) one_3 rfl Fw8_2 rfl)<|qv rfl (vv_mul (k := .i64) (a := 18) (b := a2) rfl rfl)<|qv rfl (vv_add (k := .i64) (a := 67) (b := w64 (18 * a2)) rfl rfl)<|qv rfl (vv_fieldAddr fa_52_3 rfl) ?_
 refine qv rfl (vv_load1 (v := .int .i64 a3) one_3 rfl Fw8_2 rfl)<|qv rfl (vv_mul (k := .i64) (a := 16) (b := a3) rfl rfl)<|qv rfl (vv_add (k := .i64) (a := w64 (67 + (w64 (18 * a2)))) (b := w64 (16 * a3)) rfl rfl)<|qv rfl (vv_fieldAddr fa_52_4 rfl)<|qe rfl (ev_st1 (cs' := TChoice.cs (TChoice.mk p1 false a2 a3 (w64 ((w64 (67 + (w64 (18 * a2)))) + (w64 (16 * a3)))) a4 0 a5) vy6) (one_3).siz rfl rfl rfl Fw8_2 rfl rfl) ?_
 rintro _ w9 ⟨Bw9, M9⟩
 have z17 := M9.size
 refine sd_done<|sw_seq<|dw [([b6]),([])] [(19, [1])] (.leaf [(0,10),(1,10),(2,10),(3,10),(4,10),(5,10),(6,11),(7,10),(8,10),(9,10),(11,10),(12,10),(14,10),(15,11),(10,0),(13,10),(16,10),(17,10),(18,10),(19,0)]) ?_
 intro w10 G10 zw10
 refine sdz_leaf<|dh 0 rfl rfl (fun w hS => vv_fieldAddr fa_50_3 rfl) ?_
 have Y3 := Gr.trans G3 G4
 have B18 := (((((((B5.gr Y3).md M5).gr G6).md M7).kz K8).md M9).gr G10)
 refine dh 0 rfl rfl (fun w hS => vv_load1 (v := .int .i64 p0.Headers) one_3 rfl (Bx.kp B18 hS) rfl)<|dh 0 rfl rfl (fun w hS => vv_fieldAddr fa_50_4 rfl)<|dh 0 rfl rfl (fun w hS => vv_load1 (v := .int .i64 p0.HeaderPrice) one_3 rfl (Bx.kp B18 hS) rfl)<|dh 0 rfl rfl (fun w hS => vv_mul (k := .i64) (a := p0.Headers) (b := p0.HeaderPrice) rfl rfl)<|dh 0 rfl rfl (fun w hS => vv_fieldAddr fa_52_4 rfl) ?_
 have B19 := (Bw9.gr G10)
 refine dh 1 rfl rfl (fun w hS => vv_load1 (v := .int .i64 (w64 ((w64 (67 + (w64 (18 * a2)))) + (w64 (16 * a3))))) one_3 rfl (Bx.kp B19 hS) rfl)<|dh 0 rfl rfl (fun w hS => vv_mul (k := .i64) (a := w64 (p0.Headers * p0.HeaderPrice)) (b := w64 ((w64 (67 + (w64 (18 * a2)))) + (w64 (16 * a3)))) rfl rfl)<|dh 0 rfl rfl (fun w hS => vv_fieldAddr fa_50_0 rfl)<|dh 0 rfl rfl (fun w hS => vv_load1 (v := .int .i64 p0.Depth) one_3 rfl (Bx.kp B18 hS) rfl)<|dh 0 rfl rfl (fun w hS => vv_fieldAddr fa_50_5 rfl)<|dh 0 rfl rfl (fun w hS => vv_load1 (v := .int .i64 p0.StoragePrice) one_3 rfl (Bx.kp B18 hS) rfl)<|dh 0 rfl rfl (fun w hS => vv_fieldAddr fa_52_5 rfl) ?_
 refine dh 1 rfl rfl (fun w hS => vv_load1 (v := .int .i64 a4) one_3 rfl (Bx.kp B19 hS) rfl) ?_
 obtain ⟨x7, hx7, hm⟩ := bnd hm
 refine qz [] rfl (eC en_77 rfl (ref03_Receivers_w hx7)) ⟨fun _ => tk0, fun _ => tk0, trivial⟩ ?_
 rintro _ w11 ⟨rfl, G11⟩
 have z20 := G11.size
 refine kG G11 ?_
 have S21 := ((Kp.refl ([b6]) w10).gr G11)
 refine qh 0 rfl rfl S21 (fun w hS => vv_mul (k := .i64) (a := x7) (b := p0.StoragePrice) rfl rfl)<|qh 0 rfl rfl S21 (fun w hS => vv_mul (k := .i64) (a := w64 (x7 * p0.StoragePrice)) (b := a4) rfl rfl)<|qh 0 rfl rfl S21 (fun w hS => vv_add (k := .i64) (a := w64 ((w64 (p0.Headers * p0.HeaderPrice)) * (w64 ((w64 (67 + (w64 (18 * a2)))) + (w64 (16 * a3)))))) (b := w64 ((w64 (x7 * p0.StoragePrice)) * a4)) rfl rfl)<|qh 0 rfl rfl S21 (fun w hS => vv_fieldAddr fa_52_6 rfl) ?_
 have B22 := (B19.gr G11)
 refine qz [(1, b6)] rfl (ev_st1 (cs' := TChoice.cs (TChoice.mk p1 false a2 a3 (w64 ((w64 (67 + (w64 (18 * a2)))) + (w64 (16 * a3)))) a4 (w64 ((w64 ((w64 (p0.Headers * p0.HeaderPrice)) * (w64 ((w64 (67 + (w64 (18 * a2)))) + (w64 (16 * a3)))))) + (w64 ((w64 (x7 * p0.StoragePrice)) * a4)))) a5) vy6) (one_3).siz rfl rfl rfl B22 rfl rfl) ⟨fun _ => tk0, nofun, trivial⟩ ?_
 rintro _ w12 ⟨Bw12, M12⟩
 have z23 := M12.size
 refine kM M12<|qd 7 rfl<|qv rfl (vv_fieldAddr fa_52_5 rfl)<|qv rfl (vv_load1 (v := .int .i64 a4) one_3 rfl Bw12 rfl)<|qv rfl (vv_fieldAddr fa_50_2 rfl) ?_
 have B24 := ((B18.gr G11).md M12)
 refine qv rfl (vv_load1 (v := .int .i64 p0.Storage) one_3 rfl B24 rfl)<|qv rfl (vv_leq (a := a4) (b := p0.Storage) rfl rfl)<|qv rfl (vv_fieldAddr fa_52_1 rfl)<|qe rfl (ev_st1 (cs' := TChoice.cs (TChoice.mk p1 (decide (a4 ≤ p0.Storage)) a2 a3 (w64 ((w64 (67 + (w64 (18 * a2)))) + (w64 (16 * a3)))) a4 (w64 ((w64 ((w64 (p0.Headers * p0.HeaderPrice)) * (w64 ((w64 (67 + (w64 (18 * a2)))) + (w64 (16 * a3)))))) + (w64 ((w64 (x7 * p0.StoragePrice)) * a4)))) a5) vy6) (one_4).siz rfl rfl rfl Bw12 rfl rfl) ?_
 rintro _ w13 ⟨Bw13, M13⟩
 have z25 := M13.size
 refine qd 2 rfl<|qv rfl (vv_loadW agg_52 rfl Bw13 rfl) ?_
 have B26 := ((((((((((Bw2.gr Y3).md M5).gr G6).md M7).kz K8).md M9).gr G10).gr G11).md M12).md M13)
 have B27 := (((((Fw8_0.md M9 (pb_0 Fw8_1)).gr G10).gr G11).md M12 (pb_0 Fw8_1)).md M13 (pb_0 Fw8_1))
 refine qe rfl (ev_stW agg_52 rfl rfl (TChoice.cs_ones _ _ (Own.oneB B27)) B26 rfl rfl) ?_
 rintro _ w14 ⟨Bw14, M14⟩
 have z28 := M14.size
 refine sd_done<|sw_ret ?_
 have B29 := (B27.md M14 (pb_0 Fw8_1))
 have X30 := (((((((X13.kz K8).md M9).trans G10).trans G11).md M12).md M13).md M14)
 cases hm
 refine ⟨_, _, rfl, res_1 rfl (rv_cellW agg_52 rfl Bw14 rfl), ?_⟩
 exact ⟨vy6, zy6, gy6, rfl, B29, ⟨(pv_0 (A := (fun x => w.heap.size ≤ x)) Fw8_1)⟩, X30⟩
theorem ref10_Choose_w {p0 p1 r} (hm : ref10_Choose p0 p1 = some r) {w : World} :
    Calls Try.prog 26 [.agg (TNeed.cs p0).toArray, bv p1].toArray w fun e w' => ∃ v, e = .returned v ∧ (∃ ur0_7 zr0_7 gr0_7, v = .tuple [.agg (TChoice.cs r.1 ur0_7).toArray, .int .i64 r.2].toArray ∧ Own w' zr0_7 gr0_7 3 1 ur0_7 (r.1.Witness.map ic) ∧ Hdn (zr0_7 = 0 ∨ w.heap.size ≤ gr0_7) ∧ Gr w w') := by
 unfold ref10_Choose at hm
 refine calls_of_sw 21 Try.func26 rfl rfl rfl<|qs 3 rfl<|qe rfl (ev_box (cs := TNeed.cs p0) rfl rfl) ?_
 rintro _ w1 ⟨b1, rfl, hbw1, Bw1, G1⟩
 have z1 := G1.size
 have lt2 := Bw1.lt
 refine qe rfl (ev_alloc (cs := TChoice.cs (TChoice.mk 0#8 false 0 0 0 0 0 []) (.slice none 0 0)) zv_52 rfl) ?_
 rintro _ w2 ⟨b2, rfl, hbw2, Bw2, G2⟩
 have z3 := G2.size
 have lt4 := Bw2.lt
 refine qm rfl<|sd_done<|sw_seq ?_
 have X5 := (((Gr.refl w).trans G1).trans G2)
 refine qj (β := Bool) (rg 6 11) (fun a1 => [(16, .bool a1)]) (fun a1 wr => (ref10_Choose_J1 p0 p1 a1 = some r) ∧ Kz [] w2 wr) ?_ ?_
 · refine qg 11 rfl ?_
   have B17 := (Bw1.gr G2)
   refine qv rfl (vv_loadW agg_50 rfl B17 rfl) ?_
   obtain ⟨x3, hx3, hm⟩ := bnd hm
   refine qe rfl (eC en_56 rfl (ref10_ValidNeed_w hx3)) ?_
   rintro _ w7 ⟨rfl, G7⟩
   have z18 := G7.size
   refine qv rfl (vv_not rfl)<|qp rfl (vv_move rfl) (fun c2 => ?_) (fun c2 => ?_)
   · replace hm := cnd_t c2 hm
     refine qk rfl<|qk rfl<|qm rfl<|qm rfl<|qk rfl<|qk rfl<|qm rfl ?_
     refine sd_nil ?_
     exact ⟨rfl, true, sbq, hm, (kz0.gr G7)⟩
   replace hm := cnd_f c2 hm
   refine qm rfl<|qv rfl (vv_lssB (p := p1) (q := 1#8) rfl rfl)<|qm rfl<|qp rfl (vv_move rfl) (fun c3 => ?_) (fun c3 => ?_)
   · replace hm := iT c3 hm
     refine qk rfl<|qk rfl<|qm rfl<|sd_nil ?_
     exact ⟨rfl, true, sbq, hm, (kz0.gr G7)⟩
   replace hm := iF c3 hm
   refine qm rfl<|qv rfl (vv_gtrB (p := p1) (q := 4#8) rfl rfl)<|qm rfl<|sd_nil ?_
   exact ⟨rfl, (decide (4#8 < p1)), sbq, hm, (kz0.gr G7)⟩
 clear hm; rintro a1 w3 ⟨hm, K3⟩
 have z6 := K3.size
 unfold ref10_Choose_J1 at hm
 refine sw_cond rfl (fun c1 => ?_) (fun c1 => ?_)
 · replace hm := cnd_t c1 hm
   refine qs 3 rfl<|qv rfl (vv_build (cs := TChoice.cs (TChoice.mk 0#8 false 0 0 0 0 0 []) (.slice none 0 0)) bs_52 rfl rfl) ?_
   have B7 := (Bw2.kz K3)
   refine qe rfl (ev_stW agg_52 rfl rfl (TChoice.cs_ones _ _ rfl) B7 rfl rfl) ?_
   rintro _ w4 ⟨Bw4, M4⟩
   have z8 := M4.size
   refine qm rfl<|qb ?_
   have X9 := ((X5.kz K3).md M4)
   cases hm
   refine ⟨_, _, rfl, res_2 rfl (rv_cellW agg_52 rfl Bw4 rfl) (rv_tmp rfl), ?_⟩
   exact ⟨(.slice none 0 0), 0, 0, rfl, (own_nil _ 0 3 1), ⟨.inl rfl⟩, X9⟩
 replace hm := cnd_f c1 hm
 refine qu<|qs 5 rfl ?_
 have B10 := ((Bw1.gr G2).kz K3)
 refine qv rfl (vv_loadW agg_50 rfl B10 rfl)<|qm rfl ?_
 obtain ⟨x2, hx2, hm⟩ := bnd hm
 refine qe rfl (eC en_57 rfl (ref10_Chosen_w hx2)) ?_
 rintro _ w5 ⟨u5_r0_7, z5_r0_7, g5_r0_7, rfl, O5_r0_7, f5_r0_7, G5⟩
 have z11 := G5.size
 have lt12 := O5_r0_7.lth
 have B13 := ((Bw2.kz K3).gr G5)
 refine qe rfl (ev_stW agg_52 rfl rfl (TChoice.cs_ones _ _ (Own.oneB O5_r0_7)) B13 rfl rfl) ?_
 rintro _ w6 ⟨Bw6, M6⟩
 have z14 := M6.size
 refine qm rfl<|sd_done<|sw_ret ?_
 have B15 := (O5_r0_7.md M6 (pb_0 f5_r0_7))
 have X16 := (((X5.kz K3).trans G5).md M6)
 cases hm
 refine ⟨_, _, rfl, res_2 rfl (rv_cellW agg_52 rfl Bw6 rfl) (rv_tmp rfl), ?_⟩
 exact ⟨u5_r0_7, z5_r0_7, g5_r0_7, rfl, B15, ⟨(pv_0 (A := (fun x => w.heap.size ≤ x)) f5_r0_7)⟩, X16⟩
theorem ref10_Made_w {p0 r} (hm : ref10_Made p0 = some r) {w : World} :
    Calls Try.prog 58 [.agg (TNeed.cs p0).toArray].toArray w fun e w' => ∃ v, e = .returned v ∧ (∃ ur0_0 zr0_0 gr0_0 Fr0_0, v = .agg (TPlan.cs r ur0_0).toArray ∧ OwnD rp_52 w' zr0_0 gr0_0 52 ur0_0 Fr0_0 r.Choices ∧ Hdn (zr0_0 = 0 ∨ w.heap.size ≤ gr0_0) ∧ (∀ x ∈ Fr0_0, Pv [] [] w.heap.size x) ∧ Gr w w') := by
 unfold ref10_Made at hm
 refine calls_of_sw 42 Try.func58 rfl rfl rfl<|qs 2 rfl<|qe rfl (ev_box (cs := TNeed.cs p0) rfl rfl) ?_
 rintro _ w1 ⟨b1, rfl, hbw1, Bw1, G1⟩
 have z1 := G1.size
 have lt2 := Bw1.lt
 refine qe rfl (ev_alloc (cs := TPlan.cs (TPlan.mk [] 0#8) (.slice none 0 0)) zv_59 rfl) ?_
 rintro _ w2 ⟨b2, rfl, hbw2, Bw2, G2⟩
 have z3 := G2.size
 have lt4 := Bw2.lt
 refine qd 1 rfl<|qe rfl (ev_alloc (cs := TPlan.cs (TPlan.mk [] 0#8) (.slice none 0 0)) zv_59 rfl) ?_
 rintro _ w3 ⟨b3, rfl, hbw3, Bw3, G3⟩
 have z5 := G3.size
 have lt6 := Bw3.lt
 refine sd_done<|sw_seq<|qs 1 rfl<|qm rfl<|sd_done<|sw_block ?_
 have X7 := ((((Gr.refl w).trans G1).trans G2).trans G3)
 refine sw_loopD (α := Nat × BitVec 8 × List TChoice × BitVec 8 × Value × Nat × Nat × List Nat) (rg 4 37) (fun ⟨n1, a5, a6, a7, vy8, zy8, gy8, Fy8⟩ => [(4, bv a5)]) (fun ⟨n1, a5, a6, a7, vy8, zy8, gy8, Fy8⟩ wr => (fixN (ref10_Made_L1 p0) n1 (a5, a6, a7) = some r) ∧ OwnD rp_52 wr zy8 gy8 52 vy8 Fy8 a6 ∧ Hdn (zy8 = 0 ∨ w3.heap.size ≤ gy8) ∧ (∀ x ∈ Fy8, Pv [] [] w3.heap.size x) ∧ Bx wr b3 59 (TPlan.cs (TPlan.mk a6 a7) vy8) ∧ Kz [(1, b3)] w3 wr) (fun ⟨n1, a5, a6, a7, vy8, zy8, gy8, Fy8⟩ => n1) ⟨FUEL, 1#8, [], 0#8, (.slice none 0 0), 0, 0, []⟩ ?_ ?_ ?_
 · exact sbq
 · exact ⟨hm, (ownD_nil rp_52 _ 0 52), ⟨(.inl rfl)⟩, fA_nil, Bw3, Kz.refl _ _⟩
 clear hm; rintro ⟨n1, a5, a6, a7, vy8, zy8, gy8, Fy8⟩ w4 ⟨hm, Fw4_0, Fw4_1, Fw4_2, Fw4_3, K4⟩
 have z8 := K4.size
 have fl9 := Fw4_0.flt
 have lt10 := Fw4_0.lth
 have lt11 := Fw4_3.lt
 have hb := fix_succ hm; clear hm; obtain ⟨n1, rfl, hm⟩ := hb
 generalize hrec1 : fixN (ref10_Made_L1 p0) n1 = rec1 at hm
 unfold ref10_Made_L1 at hm
 try dsimp only at hm
 refine sw_seq<|qs 2 rfl<|qm rfl<|qv rfl (vv_leqB (p := a5) (q := 4#8) rfl rfl)<|sd_done<|cnF rfl (fun c1 => ?_) (fun c1 => ?_)
 · replace hm := iF c1 hm
   refine sw_exit<|then_x<|then_x<|block_x<|then_n<|qs 2 rfl ?_
   refine qv rfl (vv_loadW agg_59 rfl Fw4_3 rfl) ?_
   have B44 := ((Bw2.gr G3).kz K4)
   refine qe rfl (ev_stW agg_59 rfl rfl (TPlan.cs_ones _ _ (OwnD.oneB Fw4_0)) B44 rfl rfl) ?_
   rintro _ w14 ⟨Bw14, M14⟩
   have z45 := M14.size
   refine sd_done<|sw_ret ?_
   have B46 := (Fw4_0.md M14 (tk1 (pb_0 (b := b2) Fw4_1)) (fA_pv (A := fun x => 1 = 0 ∨ x ≠ b2) Fw4_2 fA_nil mz_nil (fun x hx => .inr (by omega))))
   have X47 := ((X7.kz K4).md M14)
   cases hm
   refine ⟨_, _, rfl, res_1 rfl (rv_cellW agg_59 rfl Bw14 rfl), ?_⟩
   exact ⟨vy8, zy8, gy8, Fy8, rfl, B46, ⟨(pv_0 (A := (fun x => w.heap.size ≤ x)) Fw4_1)⟩, (fA_pv (A := (Pv [] [] w.heap.size)) Fw4_2 fA_nil mz_nil (fun x hx => .inr (.inr (by omega)))), X47⟩
 replace hm := iT c1 hm
 refine qu<|sw_seq<|sw_block<|qs 5 rfl ?_
 have B12 := (((Bw1.gr G2).gr G3).kz K4)
 refine qv rfl (vv_loadW agg_50 rfl B12 rfl)<|qm rfl ?_
 obtain ⟨x9, hx9, hm⟩ := bnd hm
 refine qe rfl (eC en_57 rfl (ref10_Chosen_w hx9)) ?_
 rintro _ w5 ⟨u5_r0_7, z5_r0_7, g5_r0_7, rfl, O5_r0_7, f5_r0_7, G5⟩
 have z13 := G5.size
 have lt14 := O5_r0_7.lth
 refine qe rfl (ev_alloc (cs := TChoice.cs (TChoice.mk 0#8 false 0 0 0 0 0 []) (.slice none 0 0)) zv_52 rfl) ?_
 rintro _ w6 ⟨b6, rfl, hbw6, Bw6, G6⟩
 have z15 := G6.size
 have lt16 := Bw6.lt
 have B17 := (O5_r0_7.gr G6)
 refine qe rfl (ev_stW agg_52 rfl rfl (TChoice.cs_ones _ _ (Own.oneB B17)) Bw6 rfl rfl) ?_
 rintro _ w7 ⟨Bw7, M7⟩
 have z18 := M7.size
 refine qd 7 rfl<|qv rfl (vv_fieldAddr fa_59_0 rfl) ?_
 have Y1 := Gr.trans G5 G6
 have B19 := ((Fw4_3.gr Y1).md M7)
 refine qv rfl (vv_load1 (v := vy8) one_57 rfl B19 rfl)<|qv rfl (vv_loadW agg_52 rfl Bw7 rfl) ?_
 have B20 := (B17.md M7 (pb_lt lt14))
 refine qe rfl (ev_litD (R := rp_52) (F := (zf z5_r0_7 g5_r0_7)) [(x9, u5_r0_7)] bsl_57_1 rfl rfl rfl rfl rfl (by simp only [List.mem_cons, List.not_mem_nil, or_false]; rintro p rfl; exact ⟨_, _, _, (Own.rd B20), (in_zf _ _)⟩) (zf_lt B20.lth.o)) ?_
 rintro vw8 w8 ⟨gw8, hbw8, Ow8, G8⟩
 have z21 := G8.size
 have fl22 := Ow8.flt
 have lt23 := Ow8.lth
 have B24 := (((Fw4_0.gr Y1).md M7 (tk1 (pb_lt (b := b6) lt10)) (fun x hx => .inr (by have := fl9 x hx; omega))).gr G8)
 obtain ⟨l10, hl10, hm⟩ := bnd hm
 refine qe rfl (ev_appD (l := a6) (m := [x9]) apt_57 rfl rfl B24 (OwnD.rd Ow8) hl10 (by decide) (fA_zf (A := fun x => zy8 = 0 ∨ x ≠ gy8) (pv_0 (A := (fun x => zy8 = 0 ∨ x ≠ gy8)) f5_r0_7 (fun x hx => (tk1 lt10.o))))) ?_
 rintro vw9 w9 ⟨zw9, gw9, Ow9, Aw9, qw9, rw9⟩
 have z25 := Aw9.size
 have fl26 := Ow9.flt
 refine qv rfl (vv_fieldAddr fa_59_0 rfl) ?_
 have B27 := ((B19.gr G8).ka Aw9 (tk1 (pb_0 (b := b3) Fw4_1)))
 refine qe rfl (ev_st1 (cs' := TPlan.cs (TPlan.mk l10 a7) vw9) (one_57).siz rfl rfl (OwnD.oneB Ow9) B27 rfl rfl) ?_
 rintro _ w10 ⟨Bw10, M10⟩
 have z28 := M10.size
 refine sd_done ?_
 have X29 := ((((((X7.kz K4).trans Y1).md M7).trans G8).ka Aw9 (tk1 (pv_0 (A := (fun x => w.heap.size ≤ x)) Fw4_1))).md M10)
 refine qj (β := Bool) (rg 19 20) (fun a11 => [(38, .bool a11)]) (fun a11 wr => (ref10_Made_J2 a5 a7 rec1 l10 a11 = some r) ∧ Kz [] w10 wr) ?_ ?_
 · refine dw [([])] [] (.leaf [(0,10),(1,10),(2,10),(3,10),(4,10),(5,10),(6,10),(7,10),(8,10),(9,10),(10,10),(11,10),(12,10),(13,10),(14,10),(15,10),(16,10),(17,10),(18,10),(19,10)]) ?_
   intro w13 G13 zw13
   refine sdz_leaf<|dh 0 rfl rfl (fun w hS => vv_fieldAddr fa_52_1 rfl) ?_
   have B38 := ((((Bw7.gr G8).ka Aw9 (tk1 (pb_lt (b := b6) lt10))).md M10).gr G13)
   refine dh 0 rfl rfl (fun w hS => vv_load1 (v := .bool x9.Fits) one_4 rfl (Bx.kp B38 hS) rfl)<|qqF 0 rfl rfl (Kp.refl ([]) w13) (fun w hS => vv_move rfl) (fun c3 => ?_) (fun c3 => ?_)
   · replace hm := cnd_f c3 hm
     refine dx 0 rfl rfl<|dx 0 rfl rfl<|dx 0 rfl rfl<|dx 0 rfl rfl<|dx 0 rfl rfl<|dx 0 rfl rfl<|dx 0 rfl rfl ?_
     refine dx 0 rfl rfl<|dx 0 rfl rfl<|dx 0 rfl rfl<|dx 0 rfl rfl<|dx 0 rfl rfl<|dx 0 rfl rfl<|dx 0 rfl rfl ?_
     refine dx 0 rfl rfl<|dx 0 rfl rfl<|dm 0 rfl rfl<|sd_nil ?_
     exact ⟨rfl, false, sbq, hm, (kz0.gr G13)⟩
   replace hm := cnd_t c3 hm
   refine dh 0 rfl rfl (fun w hS => vv_fieldAddr fa_59_1 rfl) ?_
   have B39 := (Bw10.gr G13)
   refine dh 0 rfl rfl (fun w hS => vv_load1 (v := bv a7) one_5 rfl (Bx.kp B39 hS) rfl)<|dh 0 rfl rfl (fun w hS => vv_eqlB (p := a7) (q := 0#8) rfl rfl)<|qq 0 rfl rfl (Kp.refl ([]) w13) (fun w hS => vv_move rfl) (fun c4 => ?_) (fun c4 => ?_)
   · replace hm := iT c4 hm
     refine dx 0 rfl rfl<|dx 0 rfl rfl<|dx 0 rfl rfl<|dx 0 rfl rfl<|dx 0 rfl rfl<|dx 0 rfl rfl<|dx 0 rfl rfl ?_
     refine dx 0 rfl rfl<|dx 0 rfl rfl<|dx 0 rfl rfl<|dx 0 rfl rfl<|dm 0 rfl rfl<|dm 0 rfl rfl<|sd_nil ?_
     exact ⟨rfl, true, sbq, hm, (kz0.gr G13)⟩
   replace hm := iF c4 hm
   refine dh 0 rfl rfl (fun w hS => vv_fieldAddr fa_52_6 rfl)<|dh 0 rfl rfl (fun w hS => vv_load1 (v := .int .i64 x9.Cost) one_3 rfl (Bx.kp B38 hS) rfl)<|dh 0 rfl rfl (fun w hS => vv_fieldAddr fa_59_0 rfl)<|dh 0 rfl rfl (fun w hS => vv_load1 (v := vw9) one_57 rfl (Bx.kp B39 hS) rfl)<|dh 0 rfl rfl (fun w hS => vv_fieldAddr fa_59_1 rfl)<|dh 0 rfl rfl (fun w hS => vv_load1 (v := bv a7) one_5 rfl (Bx.kp B39 hS) rfl)<|dh 0 rfl rfl (fun w hS => vv_subB (p := a7) (q := 1#8) rfl rfl) ?_
   obtain ⟨y12, hy12, hm⟩ := bnd hm
   have B41 := ((Ow9.md M10 (tk1 (pb_app (b := b3) rw9 (pb_0 Fw4_1))) (fA_app (fA_pv (A := fun x => 1 = 0 ∨ x ≠ b3) Fw4_2 fA_nil mz_nil (fun x hx => .inr (by omega))) (fA_zf (A := fun x => 1 = 0 ∨ x ≠ b3) (or_1 (pv_0 (A := (fun x => x ≠ b3)) f5_r0_7))))).gr G13)
   refine dh 0 rfl rfl (fun w hS => vv_ixD (i := un8 (a7 - 1#8)) Try.underlying57 (agg_52).siz rfl (OwnD.rd (OwnD.kp B41 hS (.inr List.not_mem_nil) (fun _ _ => List.not_mem_nil))) rfl hy12)<|dh 0 rfl rfl (fun w hS => vv_fieldAddr fa_52_6 rfl)<|dh 0 rfl rfl (fun w hS => vv_elD1 (q := 6) (u := .int .i64 y12.Cost) one_3 rfl (OwnD.rd (OwnD.kp B41 hS (.inr List.not_mem_nil) (fun _ _ => List.not_mem_nil))) hy12 (by first | rfl | omega) (fun _ => rfl))<|dh 0 rfl rfl (fun w hS => vv_lss (a := x9.Cost) (b := y12.Cost) rfl rfl)<|dm 0 rfl rfl<|dm 0 rfl rfl<|sd_nil ?_
   exact ⟨rfl, (decide (x9.Cost < y12.Cost)), sbq, hm, (kz0.gr G13)⟩
 clear hm; rintro a11 w11 ⟨hm, K11⟩
 have z30 := K11.size
 unfold ref10_Made_J2 at hm
 refine cnF rfl (fun c2 => ?_) (fun c2 => ?_)
 · replace hm := cnd_f c2 hm
   refine sw_skip<|block_n<|then_n<|qg 3 rfl<|qm rfl<|qv rfl (vv_addB (p := a5) (q := 1#8) rfl rfl)<|qm rfl ?_
   refine sd_nil ?_
   have K_35 : Kz [(1, b3)] w3 w11 := ((((((K4.gr Y1).md M7).gr G8).ka Aw9 (tk1 (pv_0 (A := (fun x => w3.heap.size ≤ x)) Fw4_1))).md M10).kz K11)
   have B36 := ((Ow9.md M10 (tk1 (pb_app (b := b3) rw9 (pb_0 Fw4_1))) (fA_app (fA_pv (A := fun x => 1 = 0 ∨ x ≠ b3) Fw4_2 fA_nil mz_nil (fun x hx => .inr (by omega))) (fA_zf (A := fun x => 1 = 0 ∨ x ≠ b3) (or_1 (pv_0 (A := (fun x => x ≠ b3)) f5_r0_7))))).kz K11 tk0 (fun x hx => tk0))
   have B37 := (Bw10.kz K11)
   subst hrec1
   exact ⟨rfl, ⟨n1, a5 + 1#8, l10, a7, vw9, zw9, gw9, (Fy8 ++ (zf z5_r0_7 g5_r0_7))⟩, sbq, ⟨hm, B36, ⟨(pv_app (A := (fun x => w3.heap.size ≤ x)) rw9 (pv_0 (A := (fun x => w3.heap.size ≤ x)) Fw4_1))⟩, (fA_app (fA_pv (A := (Pv [] [] w3.heap.size)) Fw4_2 fA_nil mz_nil (fun x hx => .inr (.inr (by omega)))) (fA_zf (A := (Pv [] [] w3.heap.size)) (pv_Pv (pv_0 (A := (fun x => Mz [] x ∨ w3.heap.size ≤ x)) f5_r0_7)))), B37, K_35⟩, Nat.lt_succ_self _⟩
 replace hm := cnd_t c2 hm
 refine qg 3 rfl<|qm rfl<|qv rfl (vv_fieldAddr fa_59_1 rfl) ?_
 have B31 := (Bw10.kz K11)
 refine qe rfl (ev_st1 (cs' := TPlan.cs (TPlan.mk l10 a5) vw9) (one_5).siz rfl rfl rfl B31 rfl rfl) ?_
 rintro _ w12 ⟨Bw12, M12⟩
 have z32 := M12.size
 refine sd_nil<|block_n<|then_n<|qg 3 rfl<|qm rfl<|qv rfl (vv_addB (p := a5) (q := 1#8) rfl rfl)<|qm rfl ?_
 refine sd_nil ?_
 have K_33 : Kz [(1, b3)] w3 w12 := (((((((K4.gr Y1).md M7).gr G8).ka Aw9 (tk1 (pv_0 (A := (fun x => w3.heap.size ≤ x)) Fw4_1))).md M10).kz K11).md M12)
 have B34 := (((Ow9.md M10 (tk1 (pb_app (b := b3) rw9 (pb_0 Fw4_1))) (fA_app (fA_pv (A := fun x => 1 = 0 ∨ x ≠ b3) Fw4_2 fA_nil mz_nil (fun x hx => .inr (by omega))) (fA_zf (A := fun x => 1 = 0 ∨ x ≠ b3) (or_1 (pv_0 (A := (fun x => x ≠ b3)) f5_r0_7))))).kz K11 tk0 (fun x hx => tk0)).md M12 (tk1 (pb_app (b := b3) rw9 (pb_0 Fw4_1))) (fA_app (fA_pv (A := fun x => 1 = 0 ∨ x ≠ b3) Fw4_2 fA_nil mz_nil (fun x hx => .inr (by omega))) (fA_zf (A := fun x => 1 = 0 ∨ x ≠ b3) (or_1 (pv_0 (A := (fun x => x ≠ b3)) f5_r0_7)))))
 subst hrec1
 exact ⟨rfl, ⟨n1, a5 + 1#8, l10, a5, vw9, zw9, gw9, (Fy8 ++ (zf z5_r0_7 g5_r0_7))⟩, sbq, ⟨hm, B34, ⟨(pv_app (A := (fun x => w3.heap.size ≤ x)) rw9 (pv_0 (A := (fun x => w3.heap.size ≤ x)) Fw4_1))⟩, (fA_app (fA_pv (A := (Pv [] [] w3.heap.size)) Fw4_2 fA_nil mz_nil (fun x hx => .inr (.inr (by omega)))) (fA_zf (A := (Pv [] [] w3.heap.size)) (pv_Pv (pv_0 (A := (fun x => Mz [] x ∨ w3.heap.size ≤ x)) f5_r0_7)))), Bw12, K_33⟩, Nat.lt_succ_self _⟩
theorem ref10_Make_w {p0 r} (hm : ref10_Make p0 = some r) {w : World} :
    Calls Try.prog 28 [.agg (TNeed.cs p0).toArray].toArray w fun e w' => ∃ v, e = .returned v ∧ (∃ ur0_0 zr0_0 gr0_0 Fr0_0, v = .tuple [.agg (TPlan.cs r.1 ur0_0).toArray, .int .i64 r.2].toArray ∧ OwnD rp_52 w' zr0_0 gr0_0 52 ur0_0 Fr0_0 r.1.Choices ∧ Hdn (zr0_0 = 0 ∨ w.heap.size ≤ gr0_0) ∧ (∀ x ∈ Fr0_0, Pv [] [] w.heap.size x) ∧ Gr w w') := by
 unfold ref10_Make at hm
 refine calls_of_sw 10 Try.func28 rfl rfl rfl<|qs 3 rfl<|qe rfl (ev_box (cs := TNeed.cs p0) rfl rfl) ?_
 rintro _ w1 ⟨b1, rfl, hbw1, Bw1, G1⟩
 have z1 := G1.size
 have lt2 := Bw1.lt
 refine qe rfl (ev_alloc (cs := TPlan.cs (TPlan.mk [] 0#8) (.slice none 0 0)) zv_59 rfl) ?_
 rintro _ w2 ⟨b2, rfl, hbw2, Bw2, G2⟩
 have z3 := G2.size
 have lt4 := Bw2.lt
 refine qm rfl<|sd_done<|sw_seq<|qs 3 rfl ?_
 have B5 := (Bw1.gr G2)
 refine qv rfl (vv_loadW agg_50 rfl B5 rfl) ?_
 obtain ⟨x1, hx1, hm⟩ := bnd hm
 refine qe rfl (eC en_56 rfl (ref10_ValidNeed_w hx1)) ?_
 rintro _ w3 ⟨rfl, G3⟩
 have z6 := G3.size
 refine qv rfl (vv_not rfl)<|sd_done<|sw_cond rfl (fun c1 => ?_) (fun c1 => ?_)
 · replace hm := cnd_t c1 hm
   refine qs 3 rfl<|qv rfl (vv_build (cs := TPlan.cs (TPlan.mk [] 0#8) (.slice none 0 0)) bs_59 rfl rfl) ?_
   have B7 := (Bw2.gr G3)
   refine qe rfl (ev_stW agg_59 rfl rfl (TPlan.cs_ones _ _ rfl) B7 rfl rfl) ?_
   rintro _ w4 ⟨Bw4, M4⟩
   have z8 := M4.size
   refine qm rfl<|qb ?_
   have X9 := (((((Gr.refl w).trans G1).trans G2).trans G3).md M4)
   cases hm
   refine ⟨_, _, rfl, res_2 rfl (rv_cellW agg_59 rfl Bw4 rfl) (rv_tmp rfl), ?_⟩
   exact ⟨(.slice none 0 0), 0, 0, [], rfl, (ownD_nil rp_52 _ 0 52), ⟨.inl rfl⟩, fA_nil, X9⟩
 replace hm := cnd_f c1 hm
 refine qu<|qs 4 rfl ?_
 have B10 := (B5.gr G3)
 refine qv rfl (vv_loadW agg_50 rfl B10 rfl) ?_
 obtain ⟨x2, hx2, hm⟩ := bnd hm
 refine qe rfl (eC en_58 rfl (ref10_Made_w hx2)) ?_
 rintro _ w5 ⟨u5_r0_0, z5_r0_0, g5_r0_0, F5_r0_0, rfl, O5_r0_0, f5_r0_0, p5_r0_0, G5⟩
 have z11 := G5.size
 have fl12 := O5_r0_0.flt
 have lt13 := O5_r0_0.lth
 have B14 := ((Bw2.gr G3).gr G5)
 refine qe rfl (ev_stW agg_59 rfl rfl (TPlan.cs_ones _ _ (OwnD.oneB O5_r0_0)) B14 rfl rfl) ?_
 rintro _ w6 ⟨Bw6, M6⟩
 have z15 := M6.size
 refine qm rfl<|sd_done<|sw_ret ?_
 have B16 := (O5_r0_0.md M6 (tk1 (pb_0 (b := b2) f5_r0_0)) (fA_pv (A := fun x => 1 = 0 ∨ x ≠ b2) p5_r0_0 fA_nil mz_nil (fun x hx => .inr (by omega))))
 have X17 := ((((((Gr.refl w).trans G1).trans G2).trans G3).trans G5).md M6)
 cases hm
 refine ⟨_, _, rfl, res_2 rfl (rv_cellW agg_59 rfl Bw6 rfl) (rv_tmp rfl), ?_⟩
 exact ⟨u5_r0_0, z5_r0_0, g5_r0_0, F5_r0_0, rfl, B16, ⟨(pv_0 (A := (fun x => w.heap.size ≤ x)) f5_r0_0)⟩, (fA_pv (A := (Pv [] [] w.heap.size)) p5_r0_0 fA_nil mz_nil (fun x hx => .inr (.inr (by omega)))), X17⟩
theorem ref10_CheckNeed_w {p0 r} (hm : ref10_CheckNeed p0 = some r) {w : World} :
    Calls Try.prog 30 [.agg (TNeed.cs p0).toArray].toArray w fun e w' => ∃ v, e = .returned v ∧ (v = .int .i64 r ∧ Gr w w') := by
 unfold ref10_CheckNeed at hm
 refine calls_of_sw 6 Try.func30 rfl rfl rfl<|qs 2 rfl<|qe rfl (ev_box (cs := TNeed.cs p0) rfl rfl) ?_
 rintro _ w1 ⟨b1, rfl, hbw1, Bw1, G1⟩
 have z1 := G1.size
 have lt2 := Bw1.lt
 refine qm rfl<|sd_done<|sw_seq<|qs 3 rfl<|qv rfl (vv_loadW agg_50 rfl Bw1 rfl) ?_
 obtain ⟨x1, hx1, hm⟩ := bnd hm
 refine qe rfl (eC en_56 rfl (ref10_ValidNeed_w hx1)) ?_
 rintro _ w2 ⟨rfl, G2⟩
 have z3 := G2.size
 refine qv rfl (vv_not rfl)<|sd_done<|sw_cond rfl (fun c1 => ?_) (fun c1 => ?_)
 · replace hm := cnd_t c1 hm
   refine qs 1 rfl<|qm rfl<|qb ?_
   have X4 := (((Gr.refl w).trans G1).trans G2)
   cases hm
   refine ⟨_, _, rfl, res_1 rfl (rv_tmp rfl), ?_⟩
   exact ⟨rfl, X4⟩
 replace hm := cnd_f c1 hm
 refine qu<|qs 1 rfl<|qm rfl<|sd_done<|sw_ret ?_
 have X5 := (((Gr.refl w).trans G1).trans G2)
 cases hm
 refine ⟨_, _, rfl, res_1 rfl (rv_tmp rfl), ?_⟩
 exact ⟨rfl, X5⟩
theorem ref10_Same_w {p0 p1 vp0_0 zp0_0 gp0_0 op0_0 Fp0_0 vp1_0 zp1_0 gp1_0 op1_0 Fp1_0 r} (hm : ref10_Same p0 p1 = some r) {w : World} (hp0_0 : RdD rp_52 w zp0_0 gp0_0 op0_0 vp0_0 Fp0_0 p0.Choices) (hp1_0 : RdD rp_52 w zp1_0 gp1_0 op1_0 vp1_0 Fp1_0 p1.Choices) :
    Calls Try.prog 32 [.agg (TPlan.cs p0 vp0_0).toArray, .agg (TPlan.cs p1 vp1_0).toArray].toArray w fun e w' => ∃ v, e = .returned v ∧ (v = .bool r ∧ Gr w w') := by
 have fl1 := hp0_0.flt
 have lt2 := hp0_0.lth
 have fl3 := hp1_0.flt
 have lt4 := hp1_0.lth
 unfold ref10_Same at hm
 refine calls_of_sw 39 Try.func32 rfl rfl rfl<|qs 3 rfl<|qe rfl (ev_box (cs := TPlan.cs p0 vp0_0) rfl rfl) ?_
 rintro _ w1 ⟨b1, rfl, hbw1, Bw1, G1⟩
 have z5 := G1.size
 have lt6 := Bw1.lt
 refine qe rfl (ev_box (cs := TPlan.cs p1 vp1_0) rfl rfl) ?_
 rintro _ w2 ⟨b2, rfl, hbw2, Bw2, G2⟩
 have z7 := G2.size
 have lt8 := Bw2.lt
 refine qm rfl<|sd_done<|sw_seq ?_
 have Y1 := Gr.trans G1 G2
 have X9 := ((Gr.refl w).trans Y1)
 refine qj (β := Bool) (rg 6 14) (fun a1 => [(19, .bool a1)]) (fun a1 wr => (ref10_Same_J1 p0 p1 a1 = some r) ∧ Kz [] w2 wr) ?_ ?_
 · refine qg 14 rfl<|qv rfl (vv_fieldAddr fa_59_0 rfl) ?_
   have B41 := (Bw1.gr G2)
   refine qv rfl (vv_load1 (v := vp0_0) one_57 rfl B41 rfl) ?_
   have B42 := (hp0_0.gr Y1)
   refine qv rfl (vv_lenD (l := p0.Choices) Try.underlying57 rfl B42)<|qv rfl (vv_fieldAddr fa_59_0 rfl)<|qv rfl (vv_load1 (v := vp1_0) one_57 rfl Bw2 rfl) ?_
   have B43 := (hp1_0.gr Y1)
   refine qv rfl (vv_lenD (l := p1.Choices) Try.underlying57 rfl B43)<|qv rfl (vv_neq (a := (p0.Choices.length : Int)) (b := (p1.Choices.length : Int)) rfl rfl)<|qp rfl (vv_move rfl) (fun c4 => ?_) (fun c4 => ?_)
   · replace hm := iT c4 hm
     refine qk rfl<|qk rfl<|qk rfl<|qk rfl<|qk rfl<|qm rfl<|sd_nil ?_
     exact ⟨rfl, true, sbq, hm, kz0⟩
   replace hm := iF c4 hm
   refine qv rfl (vv_fieldAddr fa_59_1 rfl)<|qv rfl (vv_load1 (v := bv p0.Best) one_5 rfl B41 rfl)<|qv rfl (vv_fieldAddr fa_59_1 rfl)<|qv rfl (vv_load1 (v := bv p1.Best) one_5 rfl Bw2 rfl)<|qv rfl (vv_neqB (p := p0.Best) (q := p1.Best) rfl rfl)<|qm rfl<|sd_nil ?_
   exact ⟨rfl, (decide (p0.Best ≠ p1.Best)), sbq, hm, kz0⟩
 clear hm; rintro a1 w3 ⟨hm, K3⟩
 have z10 := K3.size
 unfold ref10_Same_J1 at hm
 refine sw_cond rfl (fun c1 => ?_) (fun c1 => ?_)
 · replace hm := cnd_t c1 hm
   refine qs 1 rfl<|qm rfl<|qb ?_
   have X11 := (X9.kz K3)
   cases hm
   refine ⟨_, _, rfl, res_1 rfl (rv_tmp rfl), ?_⟩
   exact ⟨rfl, X11⟩
 replace hm := cnd_f c1 hm
 refine qu<|sw_seq<|qs 1 rfl<|qm rfl<|sd_done ?_
 refine sw_block ?_
 have X12 := (X9.kz K3)
 have B13 := ((hp0_0.gr Y1).kz K3 tk0 (fun x hx => tk0))
 have B14 := ((hp1_0.gr Y1).kz K3 tk0 (fun x hx => tk0))
 refine sw_loopD (α := Nat × Int) ([4, 5] ++ rg 20 19) (fun ⟨n2, a3⟩ => [(4, .bool false), (5, .int .i64 a3)]) (fun ⟨n2, a3⟩ wr => (fixN (ref10_Same_L2 p0 p1) n2 a3 = some r) ∧ Kz [] w3 wr) (fun ⟨n2, a3⟩ => n2) ⟨FUEL, 0⟩ ?_ ?_ ?_
 · exact sbq
 · exact ⟨hm, Kz.refl _ _⟩
 clear hm; rintro ⟨n2, a3⟩ w4 ⟨hm, K4⟩
 have z15 := K4.size
 have hb := fix_succ hm; clear hm; obtain ⟨n2, rfl, hm⟩ := hb
 generalize hrec2 : fixN (ref10_Same_L2 p0 p1) n2 = rec2 at hm
 unfold ref10_Same_L2 at hm
 try dsimp only at hm
 refine sw_seq<|qs 5 rfl<|qm rfl<|qv rfl (vv_fieldAddr fa_59_0 rfl) ?_
 have B16 := (((Bw1.gr G2).kz K3).kz K4)
 refine qv rfl (vv_load1 (v := vp0_0) one_57 rfl B16 rfl) ?_
 have B17 := (B13.kz K4 tk0 (fun x hx => tk0))
 refine qv rfl (vv_lenD (l := p0.Choices) Try.underlying57 rfl B17)<|qv rfl (vv_lss (a := a3) (b := (p0.Choices.length : Int)) rfl rfl)<|sd_done<|cnF rfl (fun c2 => ?_) (fun c2 => ?_)
 · replace hm := iF c2 hm
   refine sw_exit<|then_x<|then_x<|block_x<|then_n<|qs 1 rfl ?_
   refine qm rfl<|sd_done<|sw_ret ?_
   have X40 := (X12.kz K4)
   cases hm
   refine ⟨_, _, rfl, res_1 rfl (rv_tmp rfl), ?_⟩
   exact ⟨rfl, X40⟩
 replace hm := iT c2 hm
 refine qu<|sw_seq<|sw_block ?_
 have X18 := (X12.kz K4)
 refine qj (β := Bool) (rg 27 12) (fun a4 => [(38, .bool a4)]) (fun a4 wr => (ref10_Same_J3 a3 rec2 a4 = some r) ∧ Kz [] w4 wr) ?_ ?_
 · refine dw [([])] [] (.fork [(0,10),(1,10),(2,10),(3,10),(5,10),(6,10),(7,10),(8,10)] (.leaf [(4,0),(9,0),(10,0),(11,10)]) (.leaf [(9,0),(4,0),(10,0),(11,10)])) ?_
   intro w6 G6 zw6
   refine sdz_fork<|dh 0 rfl rfl (fun w hS => vv_fieldAddr fa_59_0 rfl) ?_
   have B22 := (B16.gr G6)
   refine dh 0 rfl rfl (fun w hS => vv_load1 (v := vp0_0) one_57 rfl (Bx.kp B22 hS) rfl)<|dm 0 rfl rfl ?_
   obtain ⟨y5, hy5, hm⟩ := bnd hm
   have B23 := (B17.gr G6)
   refine dh 0 rfl rfl (fun w hS => vv_ixD (i := a3) Try.underlying57 (agg_52).siz rfl (RdD.kp B23 hS (.inr List.not_mem_nil) (fun _ _ => List.not_mem_nil)) rfl hy5)<|dh 0 rfl rfl (fun w hS => vv_fieldAddr fa_59_0 rfl) ?_
   have B24 := (((Bw2.kz K3).kz K4).gr G6)
   refine dh 0 rfl rfl (fun w hS => vv_load1 (v := vp1_0) one_57 rfl (Bx.kp B24 hS) rfl)<|dm 0 rfl rfl ?_
   obtain ⟨y6, hy6, hm⟩ := bnd hm
   have B25 := ((B14.kz K4 tk0 (fun x hx => tk0)).gr G6)
   refine dh 0 rfl rfl (fun w hS => vv_ixD (i := a3) Try.underlying57 (agg_52).siz rfl (RdD.kp B25 hS (.inr List.not_mem_nil) (fun _ _ => List.not_mem_nil)) rfl hy6)<|sd_fork ?_ ?_
   · refine sdz_leaf ?_
     obtain ⟨lg26, x26_, z26_, g26_, o26_, R26, gx26, Q26, pf26⟩ := atSt B23 hy5
     have lt27 := Q26.lth
     refine qw rfl (vv_elWT (c := (fun p => TChoice.cs p.1 p.2)) agg_52 rfl R26 gx26 (by first | rfl | omega)) ?_
     obtain ⟨lg28, x28_, z28_, g28_, o28_, R28, gx28, Q28, pf28⟩ := atSt B25 hy6
     have lt29 := Q28.lth
     refine qw rfl (vv_elWT (c := (fun p => TChoice.cs p.1 p.2)) agg_52 rfl R28 gx28 (by first | rfl | omega)) ?_
     obtain ⟨x7, hx7, hm⟩ := bnd hm
     refine qz [] rfl (eC en_31 rfl (ref10_SameChoice_w hx7 Q26 Q28)) ⟨fun _ => tk0, trivial⟩ ?_
     rintro _ w7 ⟨rfl, G7⟩
     have z30 := G7.size
     refine kG G7 ?_
     have S31 := ((Kp.refl ([]) w6).gr G7)
     refine qh 0 rfl rfl S31 (fun w hS => vv_not rfl)<|sd_nil ?_
     exact ⟨rfl, (!x7), sbq, hm, ((kz0.gr G6).gr G7)⟩
   refine sdz_leaf ?_
   obtain ⟨lg33, x33_, z33_, g33_, o33_, R33, gx33, Q33, pf33⟩ := atSt B25 hy6
   have lt34 := Q33.lth
   refine qw rfl (vv_elWT (c := (fun p => TChoice.cs p.1 p.2)) agg_52 rfl R33 gx33 (by first | rfl | omega)) ?_
   obtain ⟨lg35, x35_, z35_, g35_, o35_, R35, gx35, Q35, pf35⟩ := atSt B23 hy5
   have lt36 := Q35.lth
   refine qw rfl (vv_elWT (c := (fun p => TChoice.cs p.1 p.2)) agg_52 rfl R35 gx35 (by first | rfl | omega)) ?_
   obtain ⟨x8, hx8, hm⟩ := bnd hm
   refine qz [] rfl (eC en_31 rfl (ref10_SameChoice_w hx8 Q35 Q33)) ⟨fun _ => tk0, trivial⟩ ?_
   rintro _ w8 ⟨rfl, G8⟩
   have z37 := G8.size
   refine kG G8 ?_
   have S38 := ((Kp.refl ([]) w6).gr G8)
   refine qh 0 rfl rfl S38 (fun w hS => vv_not rfl)<|sd_nil ?_
   exact ⟨rfl, (!x8), sbq, hm, ((kz0.gr G6).gr G8)⟩
 clear hm; rintro a4 w5 ⟨hm, K5⟩
 have z19 := K5.size
 unfold ref10_Same_J3 at hm
 refine sw_cond rfl (fun c3 => ?_) (fun c3 => ?_)
 · replace hm := cnd_t c3 hm
   refine qs 1 rfl<|qm rfl<|sd_done<|sw_ret<|block_r<|then_r ?_
   refine then_r<|block_r<|then_r ?_
   have X20 := (X18.kz K5)
   cases hm
   refine ⟨_, _, rfl, res_1 rfl (rv_tmp rfl), ?_⟩
   exact ⟨rfl, X20⟩
 replace hm := cnd_f c3 hm
 refine sw_skip<|block_n<|then_n<|qg 3 rfl<|qm rfl<|qv rfl (vv_add (k := .i64) (a := a3) (b := 1) rfl rfl)<|qm rfl ?_
 refine sd_nil ?_
 have K_21 : Kz [] w3 w5 := (K4.kz K5)
 subst hrec2
 exact ⟨rfl, ⟨n2, w64 (a3 + 1)⟩, sbq, ⟨hm, K_21⟩, Nat.lt_succ_self _⟩
theorem law10_PlanMakes_w {p0 p1 r} (hm : law10_PlanMakes p0 p1 = some r) {w : World} :
    Calls Try.prog 5 [.agg (TNeed.cs p0).toArray, bv p1].toArray w fun e w' => ∃ v, e = .returned v ∧ (v = .bool r ∧ Gr w w') := by
 unfold law10_PlanMakes at hm
 refine calls_of_sw 60 Try.func5 rfl rfl rfl<|qs 2 rfl<|qe rfl (ev_box (cs := TNeed.cs p0) rfl rfl) ?_
 rintro _ w1 ⟨b1, rfl, hbw1, Bw1, G1⟩
 have z1 := G1.size
 have lt2 := Bw1.lt
 refine qm rfl<|qd 9 rfl<|qv rfl (vv_loadW agg_50 rfl Bw1 rfl)<|qm rfl ?_
 obtain ⟨x1, hx1, hm⟩ := bnd hm
 refine qe rfl (eC en_25 rfl (plan_Choose_w hx1)) ?_
 rintro _ w2 ⟨u2_r0_7, z2_r0_7, g2_r0_7, rfl, O2_r0_7, f2_r0_7, G2⟩
 have z3 := G2.size
 have lt4 := O2_r0_7.lth
 refine qm rfl<|qm rfl<|qm rfl<|qe rfl (ev_alloc (cs := TChoice.cs (TChoice.mk 0#8 false 0 0 0 0 0 []) (.slice none 0 0)) zv_52 rfl) ?_
 rintro _ w3 ⟨b3, rfl, hbw3, Bw3, G3⟩
 have z5 := G3.size
 have lt6 := Bw3.lt
 have B7 := (O2_r0_7.gr G3)
 refine qe rfl (ev_stW agg_52 rfl rfl (TChoice.cs_ones _ _ (Own.oneB B7)) Bw3 rfl rfl) ?_
 rintro _ w4 ⟨Bw4, M4⟩
 have z8 := M4.size
 refine qm rfl<|qd 9 rfl ?_
 have Y1 := Gr.trans G2 G3
 have B9 := ((Bw1.gr Y1).md M4)
 refine qv rfl (vv_loadW agg_50 rfl B9 rfl)<|qm rfl ?_
 obtain ⟨x2, hx2, hm⟩ := bnd hm
 refine qe rfl (eC en_26 rfl (ref10_Choose_w hx2)) ?_
 rintro _ w5 ⟨u5_r0_7, z5_r0_7, g5_r0_7, rfl, O5_r0_7, f5_r0_7, G5⟩
 have z10 := G5.size
 have lt11 := O5_r0_7.lth
 refine qm rfl<|qm rfl<|qm rfl<|qe rfl (ev_alloc (cs := TChoice.cs (TChoice.mk 0#8 false 0 0 0 0 0 []) (.slice none 0 0)) zv_52 rfl) ?_
 rintro _ w6 ⟨b6, rfl, hbw6, Bw6, G6⟩
 have z12 := G6.size
 have lt13 := Bw6.lt
 have B14 := (O5_r0_7.gr G6)
 refine qe rfl (ev_stW agg_52 rfl rfl (TChoice.cs_ones _ _ (Own.oneB B14)) Bw6 rfl rfl) ?_
 rintro _ w7 ⟨Bw7, M7⟩
 have z15 := M7.size
 refine qm rfl<|qd 8 rfl ?_
 have Y2 := Gr.trans G5 G6
 have B16 := ((B9.gr Y2).md M7)
 refine qv rfl (vv_loadW agg_50 rfl B16 rfl) ?_
 obtain ⟨x3, hx3, hm⟩ := bnd hm
 refine qe rfl (eC en_27 rfl (plan_Make_w hx3)) ?_
 rintro _ w8 ⟨u8_r0_0, z8_r0_0, g8_r0_0, F8_r0_0, rfl, O8_r0_0, f8_r0_0, p8_r0_0, G8⟩
 have z17 := G8.size
 have fl18 := O8_r0_0.flt
 have lt19 := O8_r0_0.lth
 refine qm rfl<|qm rfl<|qm rfl<|qe rfl (ev_alloc (cs := TPlan.cs (TPlan.mk [] 0#8) (.slice none 0 0)) zv_59 rfl) ?_
 rintro _ w9 ⟨b9, rfl, hbw9, Bw9, G9⟩
 have z20 := G9.size
 have lt21 := Bw9.lt
 have B22 := (O8_r0_0.gr G9)
 refine qe rfl (ev_stW agg_59 rfl rfl (TPlan.cs_ones _ _ (OwnD.oneB B22)) Bw9 rfl rfl) ?_
 rintro _ w10 ⟨Bw10, M10⟩
 have z23 := M10.size
 refine qm rfl<|qd 8 rfl ?_
 have Y3 := Gr.trans G8 G9
 have B24 := ((B16.gr Y3).md M10)
 refine qv rfl (vv_loadW agg_50 rfl B24 rfl) ?_
 obtain ⟨x4, hx4, hm⟩ := bnd hm
 refine qe rfl (eC en_28 rfl (ref10_Make_w hx4)) ?_
 rintro _ w11 ⟨u11_r0_0, z11_r0_0, g11_r0_0, F11_r0_0, rfl, O11_r0_0, f11_r0_0, p11_r0_0, G11⟩
 have z25 := G11.size
 have fl26 := O11_r0_0.flt
 have lt27 := O11_r0_0.lth
 refine qm rfl<|qm rfl<|qm rfl<|qe rfl (ev_alloc (cs := TPlan.cs (TPlan.mk [] 0#8) (.slice none 0 0)) zv_59 rfl) ?_
 rintro _ w12 ⟨b12, rfl, hbw12, Bw12, G12⟩
 have z28 := G12.size
 have lt29 := Bw12.lt
 have B30 := (O11_r0_0.gr G12)
 refine qe rfl (ev_stW agg_59 rfl rfl (TPlan.cs_ones _ _ (OwnD.oneB B30)) Bw12 rfl rfl) ?_
 rintro _ w13 ⟨Bw13, M13⟩
 have z31 := M13.size
 refine qm rfl<|sd_done<|sw_seq<|dw [([])] [] (.leaf [(0,10),(2,10),(1,0),(3,0),(4,10),(5,10),(6,10),(7,10),(8,0),(9,10),(10,10),(11,10),(12,10),(13,10),(14,10),(15,10),(16,10),(17,10),(18,0),(19,10),(20,10),(21,10),(22,10),(23,10),(24,10),(25,10)]) ?_
 intro w14 G14 zw14
 refine sdz_leaf ?_
 have Y4 := Gr.trans G11 G12
 have B32 := (((B24.gr Y4).md M13).gr G14)
 refine dh 0 rfl rfl (fun w hS => vv_loadW agg_50 rfl (Bx.kp B32 hS) rfl)<|dh 0 rfl rfl (fun w hS => vv_loadW agg_50 rfl (Bx.kp B32 hS) rfl) ?_
 obtain ⟨x5, hx5, hm⟩ := bnd hm
 refine qz [] rfl (eC en_29 rfl (plan_CheckNeed_w hx5)) ⟨fun _ => tk0, trivial⟩ ?_
 rintro _ w15 ⟨rfl, G15⟩
 have z33 := G15.size
 refine kG G15 ?_
 obtain ⟨x6, hx6, hm⟩ := bnd hm
 refine qz [] rfl (eC en_30 rfl (ref10_CheckNeed_w hx6)) ⟨fun _ => tk0, trivial⟩ ?_
 rintro _ w16 ⟨rfl, G16⟩
 have z34 := G16.size
 refine kG G16 ?_
 have Y5 := Gr.trans G15 G16
 have S35 := ((Kp.refl ([]) w14).gr Y5)
 refine qh 0 rfl rfl S35 (fun w hS => vv_eql (a := x5) (b := x6) rfl rfl)<|qqF 0 rfl rfl S35 (fun w hS => vv_move rfl) (fun c1 => ?_) (fun c1 => ?_)
 · replace hm := iF c1 hm
   refine qx 0 rfl rfl S35<|qx 0 rfl rfl S35<|qy rfl<|dn 0 rfl rfl S35<|dn 0 rfl rfl S35<|qx 0 rfl rfl S35<|qx 0 rfl rfl S35 ?_
   refine qx 0 rfl rfl S35<|dn 0 rfl rfl S35<|dn 0 rfl rfl S35<|qx 0 rfl rfl S35<|qx 0 rfl rfl S35<|qy rfl<|dn 0 rfl rfl S35 ?_
   refine dn 0 rfl rfl S35<|qx 0 rfl rfl S35<|qx 0 rfl rfl S35<|qx 0 rfl rfl S35<|dn 0 rfl rfl S35<|dn 0 rfl rfl S35<|sd_done ?_
   refine sw_ret ?_
   have Y6 := Gr.trans G1 Y1
   have Y7 := Gr.trans G14 Y5
   have X52 := ((((((((((Gr.refl w).trans Y6).md M4).trans Y2).md M7).trans Y3).md M10).trans Y4).md M13).trans Y7)
   cases hm
   refine ⟨_, _, rfl, res_1 rfl (rv_tmp rfl), ?_⟩
   exact ⟨rfl, X52⟩
 replace hm := iT c1 hm
 have B36 := (((((((Bw4.gr Y2).md M7).gr Y3).md M10).gr Y4).md M13).gr G14)
 refine qh 0 rfl rfl S35 (fun w hS => vv_loadW agg_52 rfl (Bx.kp B36 hS) rfl) ?_
 have B37 := (((((Bw7.gr Y3).md M10).gr Y4).md M13).gr G14)
 refine qh 0 rfl rfl S35 (fun w hS => vv_loadW agg_52 rfl (Bx.kp B37 hS) rfl) ?_
 have Y8 := Gr.trans G14 Y5
 have B38 := ((((((((B7.md M4 (pb_lt lt4)).gr Y2).md M7 (pb_lt lt4)).gr Y3).md M10 (pb_lt lt4)).gr Y4).md M13 (pb_lt lt4)).gr Y8)
 have B39 := ((((((B14.md M7 (pb_lt lt11)).gr Y3).md M10 (pb_lt lt11)).gr Y4).md M13 (pb_lt lt11)).gr Y8)
 obtain ⟨x7, hx7, hm⟩ := bnd hm
 refine qz [] rfl (eC en_31 rfl (ref10_SameChoice_w hx7 (Own.rd B38) (Own.rd B39))) ⟨fun _ => tk0, trivial⟩ ?_
 rintro _ w17 ⟨rfl, G17⟩
 have z40 := G17.size
 refine kG G17 ?_
 have S41 := (S35.gr G17)
 refine dn 0 rfl rfl S41<|qqF 0 rfl rfl S41 (fun w hS => vv_move rfl) (fun c2 => ?_) (fun c2 => ?_)
 · replace hm := cnd_f c2 hm
   refine qx 0 rfl rfl S41<|qx 0 rfl rfl S41<|qx 0 rfl rfl S41<|dn 0 rfl rfl S41<|dn 0 rfl rfl S41<|qx 0 rfl rfl S41<|qx 0 rfl rfl S41 ?_
   refine qy rfl<|dn 0 rfl rfl S41<|dn 0 rfl rfl S41<|qx 0 rfl rfl S41<|qx 0 rfl rfl S41<|qx 0 rfl rfl S41<|dn 0 rfl rfl S41 ?_
   refine dn 0 rfl rfl S41<|sd_done<|sw_ret ?_
   have Y9 := Gr.trans G1 Y1
   have Y10 := Gr.trans Y8 G17
   have X51 := ((((((((((Gr.refl w).trans Y9).md M4).trans Y2).md M7).trans Y3).md M10).trans Y4).md M13).trans Y10)
   cases hm
   refine ⟨_, _, rfl, res_1 rfl (rv_tmp rfl), ?_⟩
   exact ⟨rfl, X51⟩
 replace hm := cnd_t c2 hm
 refine dn 0 rfl rfl S41<|dn 0 rfl rfl S41<|qh 0 rfl rfl S41 (fun w hS => vv_eql (a := x1.2) (b := x2.2) rfl rfl)<|dn 0 rfl rfl S41<|qqF 0 rfl rfl S41 (fun w hS => vv_move rfl) (fun c3 => ?_) (fun c3 => ?_)
 · replace hm := iF c3 hm
   refine qx 0 rfl rfl S41<|qx 0 rfl rfl S41<|qy rfl<|dn 0 rfl rfl S41<|dn 0 rfl rfl S41<|qx 0 rfl rfl S41<|qx 0 rfl rfl S41 ?_
   refine qx 0 rfl rfl S41<|dn 0 rfl rfl S41<|dn 0 rfl rfl S41<|sd_done<|sw_ret ?_
   have Y11 := Gr.trans G1 Y1
   have Y12 := Gr.trans Y8 G17
   have X50 := ((((((((((Gr.refl w).trans Y11).md M4).trans Y2).md M7).trans Y3).md M10).trans Y4).md M13).trans Y12)
   cases hm
   refine ⟨_, _, rfl, res_1 rfl (rv_tmp rfl), ?_⟩
   exact ⟨rfl, X50⟩
 replace hm := iT c3 hm
 have B42 := (((Bw10.gr Y4).md M13).gr G14)
 refine qh 0 rfl rfl S41 (fun w hS => vv_loadW agg_59 rfl (Bx.kp B42 hS) rfl) ?_
 have B43 := (Bw13.gr G14)
 refine qh 0 rfl rfl S41 (fun w hS => vv_loadW agg_59 rfl (Bx.kp B43 hS) rfl) ?_
 have Y13 := Gr.trans Y8 G17
 have B44 := ((((B22.md M10 (tk1 (pb_lt (b := b9) lt19)) (fun x hx => .inr (by have := fl18 x hx; omega))).gr Y4).md M13 (tk1 (pb_lt (b := b12) lt19)) (fun x hx => .inr (by have := fl18 x hx; omega))).gr Y13)
 have B45 := ((B30.md M13 (tk1 (pb_lt (b := b12) lt27)) (fun x hx => .inr (by have := fl26 x hx; omega))).gr Y13)
 obtain ⟨x8, hx8, hm⟩ := bnd hm
 refine qz [] rfl (eC en_32 rfl (ref10_Same_w hx8 (OwnD.rd B44) (OwnD.rd B45))) ⟨fun _ => tk0, trivial⟩ ?_
 rintro _ w18 ⟨rfl, G18⟩
 have z46 := G18.size
 refine kG G18 ?_
 have S47 := (S41.gr G18)
 refine dn 0 rfl rfl S47<|qq 0 rfl rfl S47 (fun w hS => vv_move rfl) (fun c4 => ?_) (fun c4 => ?_)
 · replace hm := cnd_t c4 hm
   refine dn 0 rfl rfl S47<|dn 0 rfl rfl S47<|qh 0 rfl rfl S47 (fun w hS => vv_eql (a := x3.2) (b := x4.2) rfl rfl)<|dn 0 rfl rfl S47<|dn 0 rfl rfl S47<|sd_done<|sw_ret ?_
   have Y14 := Gr.trans G1 Y1
   have X48 := (((((((((((Gr.refl w).trans Y14).md M4).trans Y2).md M7).trans Y3).md M10).trans Y4).md M13).trans Y13).trans G18)
   cases hm
   refine ⟨_, _, rfl, res_1 rfl (rv_tmp rfl), ?_⟩
   exact ⟨rfl, X48⟩
 replace hm := cnd_f c4 hm
 refine qx 0 rfl rfl S47<|qx 0 rfl rfl S47<|qx 0 rfl rfl S47<|dn 0 rfl rfl S47<|dn 0 rfl rfl S47<|sd_done<|sw_ret ?_
 have Y15 := Gr.trans G1 Y1
 have X49 := (((((((((((Gr.refl w).trans Y15).md M4).trans Y2).md M7).trans Y3).md M10).trans Y4).md M13).trans Y13).trans G18)
 cases hm
 refine ⟨_, _, rfl, res_1 rfl (rv_tmp rfl), ?_⟩
 exact ⟨rfl, X49⟩
end Go.Proofs.Ytopkalcefepilaa.Mx
