/- Walks that follow mirrors: Gh. Printed by mx.py. -/
import Derived.Test.YtopkalcefepilaaGa
import Derived.Test.YtopkalcefepilaaZd
set_option linter.unusedVariables false
set_option linter.unusedSimpArgs false
set_option maxRecDepth 100000
set_option maxHeartbeats 2000000
namespace Go.Proofs.Ytopkalcefepilaa.Mx
open Go Go.RowKit Go.Sx
theorem en_38 : En Try.prog 38 := fun _ _ => by kernel_rfl
theorem en_45 : En Try.prog 45 := fun _ _ => by kernel_rfl
theorem en_46 : En Try.prog 46 := fun _ _ => by kernel_rfl
theorem en_75 : En Try.prog 75 := fun _ _ => by kernel_rfl
theorem en_76 : En Try.prog 76 := fun _ _ => by kernel_rfl
theorem en_105 : En Try.prog 105 := fun _ _ => by kernel_rfl
theorem en_39 : En Try.prog 39 := fun _ _ => by kernel_rfl
theorem bsl_32_1 : BSl Try.prog 32 1 3 1 [.int .i64 0] := bsl_mk Try.underlying32 (one_3).siz zv_3 rfl rfl (by kernel_rfl)
theorem en_43 : En Try.prog 43 := fun _ _ => by kernel_rfl
theorem plan_upTo_w {p0 r} (hm : plan_upTo p0 = some r) {w : World} :
    Calls Try.prog 75 [.int .i64 p0].toArray w fun e w' => ∃ v, e = .returned v ∧ (∃ bc0, v = .func (.func 105) #[] [.pointer (some ⟨bc0, 0, none⟩)].toArray ∧ Bx w' bc0 3 ([.int .i64 r]) ∧ (w.heap.size ≤ bc0) ∧ Gr w w') := by
 unfold plan_upTo at hm
 refine calls_of_sw 4 Try.func75 rfl rfl rfl<|qs 2 rfl<|qe rfl (ev_box (cs := [.int .i64 p0]) rfl rfl) ?_
 rintro _ w1 ⟨b1, rfl, hbw1, Bw1, G1⟩
 have z1 := G1.size
 have lt2 := Bw1.lt
 refine qm rfl<|qd 2 rfl<|qv rfl (vv_makeFunc rfl rfl)<|qm rfl<|sd_done ?_
 refine sw_ret ?_
 have X3 := ((Gr.refl w).trans G1)
 cases hm
 refine ⟨_, _, rfl, res_1 rfl (rv_tmp rfl), ?_⟩
 exact ⟨b1, rfl, Bw1, by omega, X3⟩
theorem plan_upTo_1_it (p1 : Int) (bp1 : Nat) (xs : List Int) (hm : plan_upTo_1 p1 = some xs) (w0 : World) (hbp1 : Bx w0 bp1 3 ([.int .i64 p1])) :
    IT Try.prog 105 [.pointer (some ⟨bp1, 0, none⟩)] (xs.map (fun (x : Int) => ([.int .i64 x] : List Value))) ([bp1]) w0 := by
 intro l J Jx w fp hG hJ hJx hcap h0 hY
 have c1 := Bx.gr hbp1 hG
 have lt2 := c1.lt
 have nb3 : bp1 ∉ fp := hcap _ (by simp)
 have hd := dr_0 xs
 unfold plan_upTo_1 at hm
 refine calls_of_sw 14 Try.func105 rfl rfl rfl<|qs 1 rfl<|qm rfl<|sd_done<|sw_block<|sw_loopD (α := Nat × Int × Nat × List Nat × List Int) (rg 3 11) (fun ⟨n1, a2, kk, fpl, rl⟩ => [(3, .int .i64 a2)]) (fun ⟨n1, a2, kk, fpl, rl⟩ wr => (fixN (plan_upTo_1_L1 p1) n1 a2 = some rl) ∧ Dr xs kk rl ∧ J kk fpl wr ∧ (∀ c ∈ fpl, c ∈ fp ∨ w.heap.size ≤ c) ∧ Kp fp w wr ∧ Bx wr bp1 3 ([.int .i64 p1]) ∧ bp1 ∉ fpl ∧ True) (fun ⟨n1, a2, kk, fpl, rl⟩ => n1) ⟨FUEL, 0, 0, fp, xs⟩ ?_ ?_ ?_
 · exact sbq
 · exact ⟨hm, hd, h0, (fun c hc => Or.inl hc), (Kp.refl fp w), c1, nb3, trivial⟩
 clear hm; rintro ⟨n1, a2, kk1, fpl1, rl1⟩ w1 ⟨hm, dl1, JLw1, sl1, KLw1, Sw1_0, Nw1_0, -⟩
 have z4 := KLw1.size
 have lt5 := Sw1_0.lt
 have hb := fix_succ hm; clear hm; obtain ⟨n1, rfl, hm⟩ := hb
 generalize hrec1 : fixN (plan_upTo_1_L1 p1) n1 = rec1 at hm
 unfold plan_upTo_1_L1 at hm
 try dsimp only at hm
 refine sw_seq<|qs 8 rfl<|qm rfl<|qv rfl (vv_load1 (v := .int .i64 p1) one_3 rfl Sw1_0 rfl)<|qv rfl (vv_leq (a := a2) (b := p1) rfl rfl)<|qpF rfl (vv_move rfl) (fun c1 => ?_) (fun c1 => ?_)
 · replace hm := iF c1 hm
   refine qk rfl<|qk rfl<|qk rfl<|qm rfl<|sd_done<|sw_condF rfl<|sw_exit ?_
   refine then_x<|then_x<|block_x ?_
   have he := Option.some.inj hm
   have hl := Dr.last (c := (fun (x : Int) => ([.int .i64 x] : List Value))) dl1 he.symm
   refine ⟨_, _, rfl, res_none rfl, KLw1, .inl ⟨_, sl1, ?_⟩⟩
   rw [← hl]; exact JLw1
 replace hm := iT c1 hm
 refine qm rfl<|qm rfl ?_
 obtain ⟨rr6, hm, he6⟩ := yl_some hm
 have hx6 := Dr.at dl1 he6
 have hd6 := Dr.next dl1 he6
 refine qe rfl (ev_yield rfl rfl (hY _ _ _ _ (getm hx6) JLw1 KLw1 sl1)) ?_
 rintro _ w2 ⟨bb, rfl, KF6, fp6, hg6, hJb⟩
 have z7 := KF6.size
 have sub6 : ∀ c ∈ fp6, c ∈ fp ∨ w.heap.size ≤ c := sub_grow sl1 hg6 (by omega)
 have nb8 := notin_grow hg6 Nw1_0 (by omega)
 cases bb
 · have Jy6 : Jx (kk1 + 1) fp6 w2 := hJb
   refine qm rfl<|sd_done<|sw_condF rfl<|sw_exit<|then_x<|then_x<|block_x ?_
   have KI9 : Kp fp w w2 := (KLw1.trans KF6 sl1)
   exact ⟨_, _, rfl, res_none rfl, KI9, .inr ⟨_, _, sub6, (by rw [List.length_map]; exact (List.getElem?_eq_some_iff.1 hx6).1), Jy6⟩⟩
 have Jy6 : J (kk1 + 1) fp6 w2 := hJb
 refine qm rfl<|sd_done<|sw_condT rfl<|qu<|sw_seq<|sw_block ?_
 refine sw_skip<|block_n<|then_n<|qg 3 rfl<|qm rfl<|qv rfl (vv_add (k := .i64) (a := a2) (b := 1) rfl rfl)<|qm rfl ?_
 refine sd_nil ?_
 have KI10 : Kp fp w w2 := (KLw1.trans KF6 sl1)
 have B11 := (Bx.kp Sw1_0 KF6 Nw1_0)
 subst hrec1
 exact ⟨rfl, ⟨n1, w64 (a2 + 1), (kk1 + 1), fp6, rr6⟩, sbq, ⟨hm, hd6, Jy6, sub6, KI10, B11, nb8, trivial⟩, Nat.lt_succ_self _⟩
theorem plan_tables_count_w {p0 p1 bp0 vp0_7 zp0_7 gp0_7 op0_7 vp0_8 zp0_8 gp0_8 op0_8 vp0_9 zp0_9 gp0_9 op0_9 vp0_10 zp0_10 gp0_10 op0_10 r} (hm : plan_tables_count p0 p1 = some r) {w : World} (hbp0 : Bx w bp0 96 (Tplan_tables.cs p0 vp0_7 vp0_8 vp0_9 vp0_10)) (hp0_7 : Rd w zp0_7 gp0_7 op0_7 1 vp0_7 (p0.rows.a0.map ic)) (hp0_8 : Rd w zp0_8 gp0_8 op0_8 1 vp0_8 (p0.rows.a1.map ic)) (hp0_9 : Rd w zp0_9 gp0_9 op0_9 1 vp0_9 (p0.rows.a2.map ic)) (hp0_10 : Rd w zp0_10 gp0_10 op0_10 1 vp0_10 (p0.rows.a3.map ic)) :
    Calls Try.prog 76 [.pointer (some ⟨bp0, 0, none⟩), .int .i64 p1].toArray w fun e w' => ∃ v, e = .returned v ∧ (v = .int .i64 r ∧ Gr w w') := by
 have lt1 := hp0_7.lth
 have lt2 := hp0_8.lth
 have lt3 := hp0_9.lth
 have lt4 := hp0_10.lth
 have lt5 := hbp0.lt
 unfold plan_tables_count at hm
 refine calls_of_sw 17 Try.func76 rfl rfl rfl<|qs 1 rfl<|qm rfl<|sd_done<|sw_seq<|sw_seq ?_
 refine qg 2 rfl<|qm rfl<|qv rfl (vv_eql (a := p1) (b := 0) rfl rfl)<|sd_done<|sw_cond rfl (fun c1 => ?_) (fun c1 => ?_)
 · replace hm := iT c1 hm
   refine qs 1 rfl<|qm rfl<|qb ?_
   cases hm
   refine ⟨_, _, rfl, res_1 rfl (rv_tmp rfl), ?_⟩
   exact ⟨rfl, (Gr.refl w)⟩
 replace hm := iF c1 hm
 refine qu<|qs 11 rfl<|qm rfl<|qm rfl<|qv rfl (vv_nilCheck rfl rfl) ?_
 refine qv rfl (vv_fieldAddr fa_96_0 rfl)<|qv rfl (vv_fieldAddr fa_26_1 rfl)<|qv rfl (vv_load1 (v := .int .i64 p0.s.Depth) one_3 rfl hbp0 rfl) ?_
 obtain ⟨x1, hx1, hm⟩ := bnd hm
 refine qe rfl (eC en_48 rfl (plan_tables_at_w hx1 hbp0 hp0_7 hp0_8 hp0_9 hp0_10)) ?_
 rintro u1_r0_s w1 ⟨_, z1_r0_s, g1_r0_s, o1_r0_s, rfl, O1_r0_s, f1_r0_s, G1⟩
 have z6 := G1.size
 have lt7 := O1_r0_s.lth
 refine qm rfl ?_
 obtain ⟨y2, hy2, hm⟩ := bnd hm
 refine qv rfl (vv_ixT (i := p1) Try.underlying32 (one_3).siz rfl O1_r0_s rfl hy2)<|qv rfl (vv_el1T (q := 0) (u := .int .i64 y2) one_3 rfl O1_r0_s hy2 (by first | rfl | omega) rfl)<|qm rfl<|sd_done<|sw_ret ?_
 have X8 := ((Gr.refl w).trans G1)
 cases hm
 refine ⟨_, _, rfl, res_1 rfl (rv_tmp rfl), ?_⟩
 exact ⟨rfl, X8⟩
theorem plan_greatest_cbc1_plan_upTo_1_plan_tables_count_w {p0_0 p1_0 bp0_0 bp1_0 vp1_0_7 zp1_0_7 gp1_0_7 op1_0_7 vp1_0_8 zp1_0_8 gp1_0_8 op1_0_8 vp1_0_9 zp1_0_9 gp1_0_9 op1_0_9 vp1_0_10 zp1_0_10 gp1_0_10 op1_0_10 r} (hm : plan_greatest_cbc1_plan_upTo_1_plan_tables_count p0_0 p1_0 = some r) {w : World} (hbp0_0 : Bx w bp0_0 3 ([.int .i64 p0_0])) (hbp1_0 : Bx w bp1_0 96 (Tplan_tables.cs p1_0 vp1_0_7 vp1_0_8 vp1_0_9 vp1_0_10)) (hp1_0_7 : Rd w zp1_0_7 gp1_0_7 op1_0_7 1 vp1_0_7 (p1_0.rows.a0.map ic)) (hp1_0_8 : Rd w zp1_0_8 gp1_0_8 op1_0_8 1 vp1_0_8 (p1_0.rows.a1.map ic)) (hp1_0_9 : Rd w zp1_0_9 gp1_0_9 op1_0_9 1 vp1_0_9 (p1_0.rows.a2.map ic)) (hp1_0_10 : Rd w zp1_0_10 gp1_0_10 op1_0_10 1 vp1_0_10 (p1_0.rows.a3.map ic)) :
    Calls Try.prog 74 [.func (.func 105) [].toArray [.pointer (some ⟨bp0_0, 0, none⟩)].toArray, .func (.func 76) [.pointer (some ⟨bp1_0, 0, none⟩)].toArray [].toArray].toArray w fun e w' => ∃ v, e = .returned v ∧ (v = .tuple [.int .i64 r.1, .int .i64 r.2].toArray ∧ Gr w w') := by
 have lt1 := hbp0_0.lt
 have lt2 := hp1_0_7.lth
 have lt3 := hp1_0_8.lth
 have lt4 := hp1_0_9.lth
 have lt5 := hp1_0_10.lth
 have lt6 := hbp1_0.lt
 unfold plan_greatest_cbc1_plan_upTo_1_plan_tables_count at hm
 refine calls_of_sw 24 Try.func74 rfl rfl rfl<|qs 3 rfl<|qe rfl (ev_box rfl rfl) ?_
 rintro _ w1 ⟨b1, rfl, hbw1, Bw1, G1⟩
 have z7 := G1.size
 have lt8 := Bw1.lt
 refine qe rfl (ev_alloc (cs := [.int .i64 0]) zv_3 rfl) ?_
 rintro _ w2 ⟨b2, rfl, hbw2, Bw2, G2⟩
 have z9 := G2.size
 have lt10 := Bw2.lt
 refine qe rfl (ev_alloc (cs := [.int .i64 0]) zv_3 rfl) ?_
 rintro _ w3 ⟨b3, rfl, hbw3, Bw3, G3⟩
 have z11 := G3.size
 have lt12 := Bw3.lt
 refine qd 2 rfl<|qe rfl (ev_alloc (cs := [.bool false]) zv_4 rfl) ?_
 rintro _ w4 ⟨b4, rfl, hbw4, Bw4, G4⟩
 have z13 := G4.size
 have lt14 := Bw4.lt
 refine qe rfl (ev_st1 (cs' := [.bool true]) (one_4).siz rfl rfl rfl Bw4 rfl rfl) ?_
 rintro _ w5 ⟨Bw5, M5⟩
 have z15 := M5.size
 refine sd_done<|sw_seq<|qs 1 rfl<|qm rfl<|sd_done<|sw_block ?_
 have Y1 := Gr.trans (Gr.trans (Gr.trans G1 G2) G3) G4
 have B16 := ((hbp0_0.gr Y1).md M5)
 obtain ⟨l1, hl1, hm⟩ := bnd hm
 have X17 := (((Gr.refl w).trans Y1).md M5)
 have B18 := ((hp1_0_7.gr Y1).md M5 (pb_lt lt2))
 have B19 := ((hp1_0_8.gr Y1).md M5 (pb_lt lt3))
 have B20 := ((hp1_0_9.gr Y1).md M5 (pb_lt lt4))
 have B21 := ((hp1_0_10.gr Y1).md M5 (pb_lt lt5))
 have B22 := ((hbp1_0.gr Y1).md M5)
 have Y2 := Gr.trans (Gr.trans G2 G3) G4
 have B23 := ((Bw1.gr Y2).md M5)
 have Y3 := Gr.trans G3 G4
 have B24 := ((Bw2.gr Y3).md M5)
 have B25 := ((Bw3.gr G4).md M5)
 refine sw_rangeFunc (gf := 105) rfl en_105 (plan_upTo_1_it p0_0 _ _ hl1 _ B16) (by intro x hx; obtain ⟨a, _, rfl⟩ := List.mem_map.1 hx; rfl) rfl _ (fun _ _ _ _ => False) ([b2, b3, b4]) (stb_mk (α := Int × Int × Bool) (fun ⟨a5, a6, a7⟩ rk => itL (plan_greatest_cbc1_plan_upTo_1_plan_tables_count_R1 p1_0) plan_greatest_cbc1_plan_upTo_1_plan_tables_count_D1 (List.drop rk l1) (a5, a6, a7) = some r) (fun ⟨a5, a6, a7⟩ => ([b2, b3, b4])) (fun ⟨a5, a6, a7⟩ W => Bx W b2 3 ([.int .i64 a5]) ∧ Bx W b3 3 ([.int .i64 a6]) ∧ Bx W b4 4 ([.bool a7]) ∧ True) (by rintro ⟨a5, a6, a7⟩ W ⟨F0, F1, F2, _⟩ b hb; have q0 := F0.lt; have q1 := F1.lt; have q2 := F2.lt; replace hb : b ∈ ([b2, b3, b4]) := hb; simp only [List.mem_cons, List.mem_append, mem_zf, List.not_mem_nil, or_false, false_or, not_or, ne_eq, List.nil_append, List.cons_append, true_and, and_true, false_and, and_false, not_true_eq_false, not_false_eq_true, or_true, true_or] at hb; omega) (by rintro ⟨a5, a6, a7⟩ W W' ⟨F0, F1, F2, _⟩ E hs; replace hs : ∀ b ∈ ([b2, b3, b4]), W'.heap[b]? = W.heap[b]? := hs; exact ⟨(hs _ (by simp)).trans F0, (hs _ (by simp)).trans F1, (hs _ (by simp)).trans F2, trivial⟩)) (fun _ => stb_false) (by intro b hb; simp only [List.mem_cons, List.mem_append, mem_zf, List.not_mem_nil, or_false, false_or, not_or, ne_eq, List.nil_append, List.cons_append, true_and, and_true, false_and, and_false, not_true_eq_false, not_false_eq_true, or_true, true_or] at hb ⊢; omega) ⟨⟨0, 0, true⟩, hm, rfl, B24, B25, Bw5, trivial⟩ ?_ ?_ ?_
 · rintro l rk x fp w6 hl hx _ K6 hF hln hlt
   clear hm
   obtain ⟨e8, hxe, rfl⟩ := map_some hx
   have Zw6 : Kz [(1, b2), (1, b3), (1, b4)] w5 w6 := kz_of_kp K6 (by intro k hk; simp only [Nin, and_true, List.mem_cons, List.mem_append, mem_zf, List.not_mem_nil, or_false, false_or, not_or, ne_eq, List.nil_append, List.cons_append, true_and, and_true, false_and, and_false, not_true_eq_false, not_false_eq_true, or_true, true_or] at hk ⊢; omega)
   have z26 := K6.size
   refine qg 1 rfl<|qm rfl<|sd_nil<|⟨rfl, (Gr.refl _), ?_⟩
   rintro w7 M7 ⟨⟨a5, a6, a7⟩, hm, rfl, Fw7_0, Fw7_1, Fw7_2, -⟩
   have z27 := M7.size
   have lt28 := Fw7_0.lt
   have lt29 := Fw7_1.lt
   have lt30 := Fw7_2.lt
   replace hm := itL_at hm hxe
   generalize hnx1 : itL (plan_greatest_cbc1_plan_upTo_1_plan_tables_count_R1 p1_0) plan_greatest_cbc1_plan_upTo_1_plan_tables_count_D1 (List.drop (rk + 1) l1) = nx1 at hm
   unfold plan_greatest_cbc1_plan_upTo_1_plan_tables_count_R1 at hm
   try dsimp only at hm
   refine sw_block<|qs 4 rfl ?_
   have B31 := ((B23.kz Zw6).md M7)
   refine qv rfl (vv_load1 one_131 rfl B31 rfl)<|qm rfl ?_
   have B32 := ((B22.kz Zw6).md M7)
   have B33 := ((B18.kz Zw6 (tk3 (pb_lt (b := b2) lt2) (pb_lt (b := b3) lt2) (pb_lt (b := b4) lt2))).md M7 (pb_lt lt2))
   have B34 := ((B19.kz Zw6 (tk3 (pb_lt (b := b2) lt3) (pb_lt (b := b3) lt3) (pb_lt (b := b4) lt3))).md M7 (pb_lt lt3))
   have B35 := ((B20.kz Zw6 (tk3 (pb_lt (b := b2) lt4) (pb_lt (b := b3) lt4) (pb_lt (b := b4) lt4))).md M7 (pb_lt lt4))
   have B36 := ((B21.kz Zw6 (tk3 (pb_lt (b := b2) lt5) (pb_lt (b := b3) lt5) (pb_lt (b := b4) lt5))).md M7 (pb_lt lt5))
   obtain ⟨x9, hx9, hm⟩ := bnd hm
   refine qe rfl (ev_callV en_76 rfl rfl (plan_tables_count_w hx9 B32 B33 B34 B35 B36)) ?_
   rintro _ w8 ⟨rfl, G8⟩
   have z37 := G8.size
   refine qm rfl<|sd_done ?_
   have X38 := (((X17.kz Zw6).md M7).trans G8)
   refine qj (β := Bool) (rg 14 6) (fun a10 => [(19, .bool a10)]) (fun a10 wr => (plan_greatest_cbc1_plan_upTo_1_plan_tables_count_J2 a5 a6 a7 nx1 e8 x9 a10 = some r) ∧ Kz [] w8 wr) ?_ ?_
   · refine qg 6 rfl ?_
     have B53 := (Fw7_2.gr G8)
     refine qv rfl (vv_load1 (v := .bool a7) one_4 rfl B53 rfl)<|qp rfl (vv_move rfl) (fun c2 => ?_) (fun c2 => ?_)
     · replace hm := cnd_t c2 hm
       refine qk rfl<|qk rfl<|qk rfl<|qm rfl<|sd_nil ?_
       exact ⟨rfl, true, sbq, hm, kz0⟩
     replace hm := cnd_f c2 hm
     refine qm rfl ?_
     have B55 := (Fw7_0.gr G8)
     refine qv rfl (vv_load1 (v := .int .i64 a5) one_3 rfl B55 rfl)<|qv rfl (vv_gtr (a := x9) (b := a5) rfl rfl)<|qm rfl<|sd_nil ?_
     exact ⟨rfl, (decide (a5 < x9)), sbq, hm, kz0⟩
   clear hm; rintro a10 w9 ⟨hm, K9⟩
   have z39 := K9.size
   unfold plan_greatest_cbc1_plan_upTo_1_plan_tables_count_J2 at hm
   refine cnF rfl (fun c1 => ?_) (fun c1 => ?_)
   · replace hm := cnd_f c1 hm
     refine sw_skip<|block_n ?_
     have B50 := ((Fw7_0.gr G8).kz K9)
     have B51 := ((Fw7_1.gr G8).kz K9)
     have B52 := ((Fw7_2.gr G8).kz K9)
     have K_49 : Kz [(1, b2), (1, b3), (1, b4)] w7 w9 := ((Kz.gr (Kz.refl _ _) G8).kz K9)
     have Kq49 : Kp ([b2, b3, b4]) w7 w9 := kp_of_kz K_49 (by intro k hk; simp only [Nin, and_true, List.mem_cons, List.mem_append, mem_zf, List.not_mem_nil, or_false, false_or, not_or, ne_eq, List.nil_append, List.cons_append, true_and, and_true, false_and, and_false, not_true_eq_false, not_false_eq_true, or_true, true_or] at hk ⊢; omega)
     subst hnx1
     exact ⟨Kq49, ([b2, b3, b4]), (by intro c hc; simp only [List.mem_cons, List.mem_append, mem_zf, List.not_mem_nil, or_false, false_or, not_or, ne_eq, List.nil_append, List.cons_append, true_and, and_true, false_and, and_false, not_true_eq_false, not_false_eq_true, or_true, true_or] at hc ⊢; omega), ⟨⟨a5, a6, a7⟩, hm, rfl, B50, B51, B52, trivial⟩⟩
   replace hm := cnd_t c1 hm
   refine qg 5 rfl<|qm rfl<|qm rfl ?_
   have B40 := ((Fw7_0.gr G8).kz K9)
   refine qe rfl (ev_st1 (cs' := [.int .i64 x9]) (one_3).siz rfl rfl rfl B40 rfl rfl) ?_
   rintro _ w10 ⟨Bw10, M10⟩
   have z41 := M10.size
   have B42 := (((Fw7_1.gr G8).kz K9).md M10)
   refine qe rfl (ev_st1 (cs' := [.int .i64 e8]) (one_3).siz rfl rfl rfl B42 rfl rfl) ?_
   rintro _ w11 ⟨Bw11, M11⟩
   have z43 := M11.size
   have B44 := ((((Fw7_2.gr G8).kz K9).md M10).md M11)
   refine qe rfl (ev_st1 (cs' := [.bool false]) (one_4).siz rfl rfl rfl B44 rfl rfl) ?_
   rintro _ w12 ⟨Bw12, M12⟩
   have z45 := M12.size
   refine sd_nil<|block_n ?_
   have B47 := ((Bw10.md M11).md M12)
   have B48 := (Bw11.md M12)
   have K_46 : Kz [(1, b2), (1, b3), (1, b4)] w7 w12 := (((((Kz.gr (Kz.refl _ _) G8).kz K9).md M10).md M11).md M12)
   have Kq46 : Kp ([b2, b3, b4]) w7 w12 := kp_of_kz K_46 (by intro k hk; simp only [Nin, and_true, List.mem_cons, List.mem_append, mem_zf, List.not_mem_nil, or_false, false_or, not_or, ne_eq, List.nil_append, List.cons_append, true_and, and_true, false_and, and_false, not_true_eq_false, not_false_eq_true, or_true, true_or] at hk ⊢; omega)
   subst hnx1
   exact ⟨Kq46, ([b2, b3, b4]), (by intro c hc; simp only [List.mem_cons, List.mem_append, mem_zf, List.not_mem_nil, or_false, false_or, not_or, ne_eq, List.nil_append, List.cons_append, true_and, and_true, false_and, and_false, not_true_eq_false, not_false_eq_true, or_true, true_or] at hc ⊢; omega), ⟨⟨x9, e8, false⟩, hm, rfl, B47, B48, Bw12, trivial⟩⟩
 · clear hm; rintro Dw13 fp w13 hDw13 Dfw13 nw13 ⟨⟨a5, a6, a7⟩, hm, rfl, Fw13_0, Fw13_1, Fw13_2, -⟩ K13
   replace hm := itL_end hm
   have Zw13 : Kz [(1, b2), (1, b3), (1, b4)] w5 w13 := kz_of_kp K13 (by intro k hk; simp only [Nin, and_true, List.mem_cons, List.mem_append, mem_zf, List.not_mem_nil, or_false, false_or, not_or, ne_eq, List.nil_append, List.cons_append, true_and, and_true, false_and, and_false, not_true_eq_false, not_false_eq_true, or_true, true_or] at hk ⊢; omega)
   have z57 := K13.size
   have lt58 := Df.lt (w := w13) Dfw13
   simp only [List.mem_cons, List.mem_append, mem_zf, List.not_mem_nil, or_false, false_or, not_or, ne_eq, List.nil_append, List.cons_append, true_and, and_true, false_and, and_false, not_true_eq_false, not_false_eq_true, or_true, true_or, not_and] at nw13
   have lt59 := Fw13_0.lt
   have lt60 := Fw13_1.lt
   have lt61 := Fw13_2.lt
   unfold plan_greatest_cbc1_plan_upTo_1_plan_tables_count_D1 at hm
   try dsimp only at hm
   refine block_n<|then_n<|sw_seq<|dw [([b2, b3]),([b3]),([b2])] [(2, [1]),(3, [2])] (.leaf [(0,11),(1,12),(2,0),(3,0)]) ?_
   intro w14 G14 zw14
   refine sdz_leaf ?_
   have B62 := (Fw13_0.gr G14)
   refine dh 1 rfl rfl (fun w hS => vv_load1 (v := .int .i64 a5) one_3 rfl (Bx.kp B62 hS) rfl) ?_
   have B63 := (Fw13_1.gr G14)
   refine dh 2 rfl rfl (fun w hS => vv_load1 (v := .int .i64 a6) one_3 rfl (Bx.kp B63 hS) rfl)<|qz [(1, b2)] rfl (ev_st1 (cs' := [.int .i64 a5]) (one_3).siz rfl rfl rfl B62 rfl rfl) ⟨fun _ => tk0, nofun, fun _ => tk0, trivial⟩ ?_
   rintro _ w15 ⟨Bw15, M15⟩
   have z64 := M15.size
   refine kM M15 ?_
   have B65 := (B63.md M15)
   refine qz [(1, b3)] rfl (ev_st1 (cs' := [.int .i64 a6]) (one_3).siz rfl rfl rfl B65 rfl rfl) ⟨fun _ => tk0, fun _ => tk0, nofun, trivial⟩ ?_
   rintro _ w16 ⟨Bw16, M16⟩
   have z66 := M16.size
   refine kM M16<|sd_done<|sw_ret ?_
   have DL67 := (Df.md (Df.md (Df.gr Dfw13 G14) M15) M16)
   have L67 := Md.put (w := w16) Dw13 (.deferred none)
   have zL67 := L67.size
   have B68 := ((Bw15.md M16).md L67)
   have B69 := (Bw16.md L67)
   have X70 : Gr w (w16.putObj Dw13 (.deferred none)) := (((((X17.kz Zw13).trans G14).md M15).md M16).md L67)
   cases hm
   refine ⟨_, _, ⟨Dw13, rfl, DL67, rfl⟩, res_2 rfl (rv_cell1 one_3 rfl B68) (rv_cell1 one_3 rfl B69), ?_⟩
   exact ⟨rfl, X70⟩
 rintro _ _ _ _ _ _ _ _ _ h _
 exact h.elim
theorem plan_tables_worst_w {p0 p1 bp0 vp0_7 zp0_7 gp0_7 op0_7 vp0_8 zp0_8 gp0_8 op0_8 vp0_9 zp0_9 gp0_9 op0_9 vp0_10 zp0_10 gp0_10 op0_10 r} (hm : plan_tables_worst p0 p1 = some r) {w : World} (hbp0 : Bx w bp0 96 (Tplan_tables.cs p0 vp0_7 vp0_8 vp0_9 vp0_10)) (hp0_7 : Rd w zp0_7 gp0_7 op0_7 1 vp0_7 (p0.rows.a0.map ic)) (hp0_8 : Rd w zp0_8 gp0_8 op0_8 1 vp0_8 (p0.rows.a1.map ic)) (hp0_9 : Rd w zp0_9 gp0_9 op0_9 1 vp0_9 (p0.rows.a2.map ic)) (hp0_10 : Rd w zp0_10 gp0_10 op0_10 1 vp0_10 (p0.rows.a3.map ic)) :
    Calls Try.prog 39 [.pointer (some ⟨bp0, 0, none⟩), .int .i64 p1].toArray w fun e w' => ∃ v, e = .returned v ∧ (v = .tuple [.int .i64 r.1, .int .i64 r.2].toArray ∧ Gr w w') := by
 have lt1 := hp0_7.lth
 have lt2 := hp0_8.lth
 have lt3 := hp0_9.lth
 have lt4 := hp0_10.lth
 have lt5 := hbp0.lt
 unfold plan_tables_worst at hm
 refine calls_of_sw 13 Try.func39 rfl rfl rfl<|qs 2 rfl<|qm rfl<|qm rfl<|sd_done<|sw_seq ?_
 refine qg 9 rfl<|qm rfl ?_
 obtain ⟨x1, hx1, hm⟩ := bnd hm
 refine qe rfl (eC en_75 rfl (plan_upTo_w hx1)) ?_
 rintro _ w1 ⟨k1_c0_0, rfl, O1_c0_0, f1_c0_0, G1⟩
 have z6 := G1.size
 have lt7 := O1_c0_0.lt
 refine qm rfl<|qv rfl (vv_makeFunc rfl rfl) ?_
 have B8 := (hbp0.gr G1)
 have B9 := (hp0_7.gr G1)
 have B10 := (hp0_8.gr G1)
 have B11 := (hp0_9.gr G1)
 have B12 := (hp0_10.gr G1)
 obtain ⟨x2, hx2, hm⟩ := bnd hm
 refine qe rfl (eC en_74 rfl (plan_greatest_cbc1_plan_upTo_1_plan_tables_count_w hx2 O1_c0_0 B8 B9 B10 B11 B12)) ?_
 rintro _ w2 ⟨rfl, G2⟩
 have z13 := G2.size
 refine qm rfl<|qm rfl<|qm rfl<|qm rfl<|sd_done<|sw_ret ?_
 have X14 := (((Gr.refl w).trans G1).trans G2)
 cases hm
 refine ⟨_, _, rfl, res_2 rfl (rv_tmp rfl) (rv_tmp rfl), ?_⟩
 exact ⟨rfl, X14⟩
theorem plan_Worst_w {p0 p1 r} (hm : plan_Worst p0 p1 = some r) {w : World} :
    Calls Try.prog 14 [.agg (TScheme.cs p0).toArray, .int .i64 p1].toArray w fun e w' => ∃ v, e = .returned v ∧ (v = .tuple [.int .i64 r.1, .int .i64 r.2].toArray ∧ Gr w w') := by
 unfold plan_Worst at hm
 refine calls_of_sw 26 Try.func14 rfl rfl rfl<|qs 3 rfl<|qe rfl (ev_box (cs := TScheme.cs p0) rfl rfl) ?_
 rintro _ w1 ⟨b1, rfl, hbw1, Bw1, G1⟩
 have z1 := G1.size
 have lt2 := Bw1.lt
 refine qm rfl<|qm rfl<|qd 8 rfl<|qv rfl (vv_loadW agg_26 rfl Bw1 rfl)<|qm rfl ?_
 refine sd_inl 23 Try.func38 rfl rfl rfl en_38 rfl rfl rfl rfl rfl<|qs 3 rfl<|qe rfl (ev_box (cs := TScheme.cs p0) rfl rfl) ?_
 rintro _ w2 ⟨b2, rfl, hbw2, Bw2, G2⟩
 have z3 := G2.size
 have lt4 := Bw2.lt
 refine qm rfl<|qm rfl<|sd_done<|sw_seq<|qs 3 rfl<|qv rfl (vv_loadW agg_26 rfl Bw2 rfl) ?_
 obtain ⟨x1, hx1, hm⟩ := bnd hm
 refine qe rfl (eC en_45 rfl (cover_Check_w hx1)) ?_
 rintro _ w3 ⟨rfl, G3⟩
 have z5 := G3.size
 refine qm rfl<|qd 2 rfl<|qm rfl<|qv rfl (vv_neq (a := x1) (b := 0) rfl rfl)<|sd_done ?_
 refine sw_cond rfl (fun c1 => ?_) (fun c1 => ?_)
 · replace hm := iT c1 hm
   refine qs 3 rfl<|qm rfl<|qm rfl<|qm rfl<|sd_done<|sw_ret ?_
   refine then_r<|⟨_, _, rfl, res_2 rfl (rv_tmp rfl) (rv_tmp rfl), ?_⟩
   refine qm rfl<|qm rfl<|qm rfl<|qm rfl<|qm rfl<|sd_done<|sw_seq ?_
   refine qs 2 rfl<|qm rfl<|qv rfl (vv_neq (a := x1) (b := 0) rfl rfl)<|sd_done<|cnF rfl (fun c2 => ?_) (fun c2 => ?_)
   · replace hm := iF c2 hm
     cases hm
   replace hm := iT c2 hm
   refine qs 3 rfl<|qm rfl<|qm rfl<|qm rfl<|sd_done<|sw_ret ?_
   refine then_r ?_
   have X6 := ((((Gr.refl w).trans G1).trans G2).trans G3)
   cases hm
   refine ⟨_, _, rfl, res_2 rfl (rv_tmp rfl) (rv_tmp rfl), ?_⟩
   exact ⟨rfl, X6⟩
 replace hm := iF c1 hm
 refine qu<|sw_seq ?_
 have X7 := ((((Gr.refl w).trans G1).trans G2).trans G3)
 refine qj (β := Bool) (rg 12 9) (fun a2 => [(20, .bool a2)]) (fun a2 wr => (plan_Worst_J1 p0 p1 a2 = some r) ∧ Kz [] w3 wr) ?_ ?_
 · refine qg 9 rfl<|qm rfl<|qv rfl (vv_lss (a := p1) (b := 0) rfl rfl)<|qp rfl (vv_move rfl) (fun c4 => ?_) (fun c4 => ?_)
   · replace hm := iT c4 hm
     refine qk rfl<|qk rfl<|qk rfl<|qk rfl<|qk rfl<|qm rfl<|sd_nil ?_
     exact ⟨rfl, true, sbq, hm, kz0⟩
   replace hm := iF c4 hm
   refine qm rfl<|qv rfl (vv_fieldAddr fa_26_1 rfl) ?_
   have B20 := (Bw2.gr G3)
   refine qv rfl (vv_load1 (v := .int .i64 p0.Depth) one_3 rfl B20 rfl) ?_
   obtain ⟨nn5, hnn5, hm⟩ := bnd hm
   refine qv rfl (vv_shlI (a := 1) (b := p0.Depth) rfl rfl hnn5)<|qv rfl (vv_gtr (a := p1) (b := shlI 1 nn5) rfl rfl)<|qm rfl<|sd_nil ?_
   exact ⟨rfl, (decide (shlI 1 nn5 < p1)), sbq, hm, kz0⟩
 clear hm; rintro a2 w4 ⟨hm, K4⟩
 have z8 := K4.size
 unfold plan_Worst_J1 at hm
 refine sw_cond rfl (fun c3 => ?_) (fun c3 => ?_)
 · replace hm := cnd_t c3 hm
   refine qs 2 rfl<|qm rfl<|qm rfl<|sd_done<|sw_ret<|then_r ?_
   refine ⟨_, _, rfl, res_2 rfl (rv_tmp rfl) (rv_tmp rfl), ?_⟩
   refine qm rfl<|qm rfl<|qm rfl<|qm rfl<|qm rfl<|sd_done<|sw_seq ?_
   refine qs 2 rfl<|qm rfl<|qv rfl (vv_neq (a := 2) (b := 0) rfl rfl)<|sd_done<|sw_condT rfl<|sw_seq ?_
   refine qg 3 rfl<|qm rfl<|qm rfl<|qm rfl<|sd_done<|sw_ret<|then_r ?_
   have X9 := (X7.kz K4)
   cases hm
   refine ⟨_, _, rfl, res_2 rfl (rv_tmp rfl) (rv_tmp rfl), ?_⟩
   exact ⟨rfl, X9⟩
 replace hm := cnd_f c3 hm
 refine qu<|qs 4 rfl ?_
 have B10 := ((Bw2.gr G3).kz K4)
 refine qv rfl (vv_loadW agg_26 rfl B10 rfl) ?_
 obtain ⟨x3, hx3, hm⟩ := bnd hm
 refine qe rfl (eC en_46 rfl (plan_newTables_w hx3)) ?_
 rintro _ w5 ⟨k5_p0_0, u5_p00_7, z5_p00_7, g5_p00_7, u5_p00_8, z5_p00_8, g5_p00_8, u5_p00_9, z5_p00_9, g5_p00_9, u5_p00_10, z5_p00_10, g5_p00_10, rfl, O5_p0_0, f5_p0_0, O5_p00_7, f5_p00_7, e5_p00_7, O5_p00_8, f5_p00_8, e5_p00_8, O5_p00_9, f5_p00_9, e5_p00_9, O5_p00_10, f5_p00_10, e5_p00_10, d5_0, d5_1, d5_2, d5_3, d5_4, d5_5, G5⟩
 have z11 := G5.size
 have lt12 := O5_p00_7.lth
 have lt13 := O5_p00_8.lth
 have lt14 := O5_p00_9.lth
 have lt15 := O5_p00_10.lth
 have lt16 := O5_p0_0.lt
 refine qm rfl<|qm rfl<|sd_done<|sw_ret<|⟨_, _, rfl, res_2 rfl (rv_tmp rfl) (rv_tmp rfl), ?_⟩
 refine qm rfl<|qm rfl<|qm rfl<|qm rfl<|qm rfl<|sd_done<|sw_seq ?_
 refine qs 2 rfl<|qm rfl<|qv rfl (vv_neq (a := 0) (b := 0) rfl rfl)<|sd_done<|sw_condF rfl<|sw_skip ?_
 refine then_n<|qs 8 rfl<|qm rfl<|qm rfl ?_
 obtain ⟨x4, hx4, hm⟩ := bnd hm
 refine qe rfl (eC en_39 rfl (plan_tables_worst_w hx4 O5_p0_0 (Own.rd O5_p00_7) (Own.rd O5_p00_8) (Own.rd O5_p00_9) (Own.rd O5_p00_10))) ?_
 rintro _ w6 ⟨rfl, G6⟩
 have z17 := G6.size
 refine qm rfl<|qm rfl<|qm rfl<|qm rfl<|qm rfl<|sd_done<|sw_seq ?_
 refine qg 3 rfl<|qm rfl<|qm rfl<|qm rfl<|sd_done<|sw_ret ?_
 have X18 := (((X7.kz K4).trans G5).trans G6)
 cases hm
 refine ⟨_, _, rfl, res_2 rfl (rv_tmp rfl) (rv_tmp rfl), ?_⟩
 exact ⟨rfl, X18⟩
theorem plan_tables_list_i (n : Nat) : ∀ (p0 : Tplan_tables) (p1 : List Int) (p2 : Int) (p3 : Int) (p4 : Int) (p5 : Int) (bp0 : Nat) (vp0_7 : Value) (zp0_7 gp0_7 op0_7 : Nat) (vp0_8 : Value) (zp0_8 gp0_8 op0_8 : Nat) (vp0_9 : Value) (zp0_9 gp0_9 op0_9 : Nat) (vp0_10 : Value) (zp0_10 gp0_10 op0_10 : Nat) (vp1 : Value) (zp1 gp1 : Nat) (r : List Int) (hm : fixN plan_tables_list_F n (p0, p1, p2, p3, p4, p5) = some r) (w : World) (hbp0 : Bx w bp0 96 (Tplan_tables.cs p0 vp0_7 vp0_8 vp0_9 vp0_10)) (hp0_7 : Rd w zp0_7 gp0_7 op0_7 1 vp0_7 (p0.rows.a0.map ic)) (hp0_8 : Rd w zp0_8 gp0_8 op0_8 1 vp0_8 (p0.rows.a1.map ic)) (hp0_9 : Rd w zp0_9 gp0_9 op0_9 1 vp0_9 (p0.rows.a2.map ic)) (hp0_10 : Rd w zp0_10 gp0_10 op0_10 1 vp0_10 (p0.rows.a3.map ic)) (hp1 : Own w zp1 gp1 3 1 vp1 (p1.map ic)) (ne0 : Hdn (zp1 = 0 ∨ zp0_7 = 0 ∨ gp1 ≠ gp0_7)) (ne1 : Hdn (zp1 = 0 ∨ zp0_8 = 0 ∨ gp1 ≠ gp0_8)) (ne2 : Hdn (zp1 = 0 ∨ zp0_9 = 0 ∨ gp1 ≠ gp0_9)) (ne3 : Hdn (zp1 = 0 ∨ zp0_10 = 0 ∨ gp1 ≠ gp0_10)) (ne4 : Hdn (zp1 = 0 ∨ gp1 ≠ bp0)),
    Calls Try.prog 43 [.pointer (some ⟨bp0, 0, none⟩), vp1, .int .i64 p2, .int .i64 p3, .int .i64 p4, .int .i64 p5].toArray w fun e w' => ∃ v, e = .returned v ∧ (∃ (ur0_s : Value) (zr0_s : Nat) (gr0_s : Nat), v = ur0_s ∧ Own w' zr0_s gr0_s 3 1 ur0_s (r.map ic) ∧ Hdn (zr0_s = 0 ∨ (gr0_s = gp1 ∧ zp1 ≠ 0) ∨ w.heap.size ≤ gr0_s) ∧ Kz [(zp1, gp1)] w w') := by
 induction n with
 | zero => intro p0 p1 p2 p3 p4 p5 bp0 vp0_7 zp0_7 gp0_7 op0_7 vp0_8 zp0_8 gp0_8 op0_8 vp0_9 zp0_9 gp0_9 op0_9 vp0_10 zp0_10 gp0_10 op0_10 vp1 zp1 gp1 r hm w hbp0 hp0_7 hp0_8 hp0_9 hp0_10 hp1 ne0 ne1 ne2 ne3 ne4; cases hm
 | succ n ih =>
 intro p0 p1 p2 p3 p4 p5 bp0 vp0_7 zp0_7 gp0_7 op0_7 vp0_8 zp0_8 gp0_8 op0_8 vp0_9 zp0_9 gp0_9 op0_9 vp0_10 zp0_10 gp0_10 op0_10 vp1 zp1 gp1 r hm w hbp0 hp0_7 hp0_8 hp0_9 hp0_10 hp1 ne0 ne1 ne2 ne3 ne4
 replace hm : plan_tables_list_R (fixN plan_tables_list_F n) p0 p1 p2 p3 p4 p5 = some r := hm
 generalize fixN plan_tables_list_F n = rec0 at hm ih
 have lt1 := hp0_7.lth
 have lt2 := hp0_8.lth
 have lt3 := hp0_9.lth
 have lt4 := hp0_10.lth
 have lt5 := hbp0.lt
 have lt6 := hp1.lth
 unfold plan_tables_list_R at hm
 refine calls_of_sw 82 Try.func43 rfl rfl rfl<|qs 1 rfl<|qm rfl<|sd_done<|sw_seq<|sw_block ?_
 refine qs 3 rfl<|qm rfl<|qv rfl (vv_eql (a := p5) (b := 0) rfl rfl)<|qm rfl<|sd_done<|sw_cond rfl (fun c1 => ?_) (fun c1 => ?_)
 · replace hm := iT c1 hm
   refine qs 2 rfl<|qm rfl<|qm rfl<|sd_done<|sw_ret<|block_r ?_
   refine then_r ?_
   cases hm
   refine ⟨_, _, rfl, res_1 rfl (rv_tmp rfl), ?_⟩
   exact ⟨vp1, zp1, gp1, rfl, hp1, ⟨tk0⟩, (Kz.refl _ w)⟩
 replace hm := iF c1 hm
 refine qs 3 rfl<|qm rfl<|qv rfl (vv_eql (a := p4) (b := 0) rfl rfl)<|qm rfl<|sd_done<|sw_cond rfl (fun c2 => ?_) (fun c2 => ?_)
 · replace hm := iT c2 hm
   refine qs 12 rfl<|qm rfl<|qm rfl<|qm rfl<|qv rfl (vv_nilCheck rfl rfl)<|qv rfl (vv_fieldAddr fa_96_0 rfl) ?_
   refine qv rfl (vv_fieldAddr fa_26_1 rfl)<|qv rfl (vv_load1 (v := .int .i64 p0.s.Depth) one_3 rfl hbp0 rfl) ?_
   obtain ⟨nn1, hnn1, hm⟩ := bnd hm
   refine qv rfl (vv_shlI (a := 1) (b := p0.s.Depth) rfl rfl hnn1)<|qv rfl (vv_sub (k := .i64) (a := p2) (b := shlI 1 nn1) rfl rfl)<|qe rfl (ev_litT [w64 (p2 - (shlI 1 nn1))] ic bsl_32_1 rfl rfl (ws_of rfl) rfl rfl rfl) ?_
   rintro vw1 w1 ⟨gw1, hbw1, Ow1, G1⟩
   have z7 := G1.size
   have lt8 := Ow1.lth
   have B9 := (hp1.gr G1)
   obtain ⟨l2, hl2, hm⟩ := bnd hm
   refine qe rfl (ev_appT (l := p1) (m := [w64 (p2 - (shlI 1 nn1))]) (c := ic) apt_32 rfl rfl B9 (Own.rd Ow1) hl2 (by decide)) ?_
   rintro vw2 w2 ⟨zw2, gw2, Ow2, Aw2, qw2, rw2⟩
   have z10 := Aw2.size
   refine qm rfl<|sd_done<|sw_ret<|block_r<|then_r ?_
   have X11 := (((Kz.refl [(zp1, gp1)] w).gr G1).ka Aw2 (tk1 (tk0 : zp1 = 0 ∨ (gp1 = gp1 ∧ zp1 ≠ 0) ∨ w.heap.size ≤ gp1)))
   cases hm
   refine ⟨_, _, rfl, res_1 rfl (rv_tmp rfl), ?_⟩
   exact ⟨vw2, zw2, gw2, rfl, Ow2, ⟨(pv_app (A := (fun x => (x = gp1 ∧ zp1 ≠ 0) ∨ w.heap.size ≤ x)) rw2 tk0)⟩, X11⟩
 replace hm := iF c2 hm
 refine sw_skip<|block_n<|then_n<|qs 10 rfl<|qm rfl<|qm rfl ?_
 refine qm rfl<|qm rfl ?_
 obtain ⟨x3, hx3, hm⟩ := bnd hm
 refine qe rfl (eC en_82 rfl (plan_tables_best_w hx3 hbp0 hp0_7 hp0_8 hp0_9 hp0_10)) ?_
 rintro _ w3 ⟨rfl, G3⟩
 have z12 := G3.size
 refine qm rfl<|qm rfl<|qm rfl<|qm rfl<|qm rfl<|sd_done<|sw_seq ?_
 refine qg 1 rfl<|qm rfl<|sd_done ?_
 have X13 := ((Kz.refl [(zp1, gp1)] w).gr G3)
 refine qj (β := Int) ([15] ++ rg 42 19) (fun a4 => [(15, .int .i64 a4)]) (fun a4 wr => (plan_tables_list_J1 p0 p1 p2 p4 p5 rec0 x3 a4 = some r) ∧ Kz [] w3 wr) ?_ ?_
 · refine qj (β := Bool) (rg 42 15) (fun a7 => [(56, .bool a7)]) (fun a7 wr => (plan_tables_list_J2 p0 p1 p2 p3 p4 p5 rec0 x3 a7 = some r) ∧ Kz [] w3 wr) ?_ ?_
   · refine qg 15 rfl<|qm rfl<|qv rfl (vv_nilCheck rfl rfl)<|qv rfl (vv_fieldAddr fa_96_0 rfl)<|qv rfl (vv_fieldAddr fa_26_0 rfl) ?_
     have B40 := (hbp0.gr G3)
     refine qv rfl (vv_load1 (v := bv p0.s.Kind) one_5 rfl B40 rfl)<|qv rfl (vv_neqB (p := p0.s.Kind) (q := 1#8) rfl rfl)<|qpF rfl (vv_move rfl) (fun c4 => ?_) (fun c4 => ?_)
     · replace hm := iF c4 hm
       refine qk rfl<|qk rfl<|qk rfl<|qk rfl<|qk rfl<|qk rfl<|qk rfl ?_
       refine qm rfl<|sd_nil ?_
       exact ⟨rfl, false, sbq, hm, kz0⟩
     replace hm := iT c4 hm
     refine qm rfl<|qv rfl (vv_eql (a := x3.2) (b := 0) rfl rfl)<|qp rfl (vv_move rfl) (fun c5 => ?_) (fun c5 => ?_)
     · replace hm := iT c5 hm
       refine qk rfl<|qk rfl<|qk rfl<|qm rfl<|qm rfl<|sd_nil ?_
       exact ⟨rfl, true, sbq, hm, kz0⟩
     replace hm := iF c5 hm
     refine qm rfl<|qm rfl<|qv rfl (vv_eql (a := x3.2) (b := p5) rfl rfl)<|qm rfl<|qm rfl<|sd_nil ?_
     exact ⟨rfl, (decide (x3.2 = p5)), sbq, hm, kz0⟩
   clear hm; rintro a7 w7 ⟨hm, K7⟩
   have z31 := K7.size
   unfold plan_tables_list_J2 at hm
   refine cnF rfl (fun c3 => ?_) (fun c3 => ?_)
   · replace hm := cnd_f c3 hm
     refine sw_skip ?_
     exact ⟨rfl, 0, sbq, hm, (kz0.kz K7)⟩
   replace hm := cnd_t c3 hm
   refine qg 5 rfl<|qm rfl<|qm rfl<|qm rfl ?_
   have B32 := ((hbp0.gr G3).kz K7)
   have B33 := ((hp0_7.gr G3).kz K7)
   have B34 := ((hp0_8.gr G3).kz K7)
   have B35 := ((hp0_9.gr G3).kz K7)
   have B36 := ((hp0_10.gr G3).kz K7)
   obtain ⟨x8, hx8, hm⟩ := bnd hm
   refine qe rfl (eC en_83 rfl (plan_tables_below_w hx8 B32 B33 B34 B35 B36)) ?_
   rintro _ w8 ⟨rfl, G8⟩
   have z37 := G8.size
   refine qm rfl<|sd_nil ?_
   exact ⟨rfl, x8, sbq, hm, ((kz0.kz K7).gr G8)⟩
 clear hm; rintro a4 w4 ⟨hm, K4⟩
 have z14 := K4.size
 unfold plan_tables_list_J1 at hm
 refine qs 10 rfl<|qm rfl<|qm rfl<|qm rfl<|qv rfl (vv_mul (k := .i64) (a := 2) (b := p2) rfl rfl)<|qm rfl ?_
 refine qm rfl<|qv rfl (vv_sub (k := .i64) (a := p4) (b := 1) rfl rfl)<|qm rfl ?_
 have B15 := ((hbp0.gr G3).kz K4)
 have B16 := ((hp0_7.gr G3).kz K4)
 have B17 := ((hp0_8.gr G3).kz K4)
 have B18 := ((hp0_9.gr G3).kz K4)
 have B19 := ((hp0_10.gr G3).kz K4)
 have B20 := ((hp1.gr G3).kz K4)
 obtain ⟨x5, hx5, hm⟩ := bnd hm
 refine qe rfl (eC en_43 rfl (ih p0 p1 (w64 (2 * p2)) a4 (w64 (p4 - 1)) x3.2 _ _ _ _ _ _ _ _ _ _ _ _ _ _ _ _ _ vp1 zp1 gp1 _ hx5 _ B15 B16 B17 B18 B19 B20 ⟨(tk1 ((tk1 ne0.o) : zp1 = 0 ∨ zp0_7 = 0 ∨ gp1 ≠ gp0_7))⟩ ⟨(tk1 ((tk1 ne1.o) : zp1 = 0 ∨ zp0_8 = 0 ∨ gp1 ≠ gp0_8))⟩ ⟨(tk1 ((tk1 ne2.o) : zp1 = 0 ∨ zp0_9 = 0 ∨ gp1 ≠ gp0_9))⟩ ⟨(tk1 ((tk1 ne3.o) : zp1 = 0 ∨ zp0_10 = 0 ∨ gp1 ≠ gp0_10))⟩ ⟨(tk1 ((by have := lt6.o; have := ne0.o; have := ne1.o; have := ne2.o; have := ne3.o; have := ne4.o; (try simp only [Nin, InA, InZ, mz_map, Mz, or_true, true_or, and_true, List.mem_cons, List.mem_append, mem_zf, List.not_mem_nil, or_false, false_or, not_or, ne_eq, List.nil_append, List.cons_append, true_and, and_true, false_and, and_false, not_true_eq_false, not_false_eq_true, or_true, true_or]) <;> omega) : zp1 = 0 ∨ gp1 ≠ bp0))⟩)) ?_
 rintro u5_r0_s w5 ⟨_, z5_r0_s, g5_r0_s, rfl, O5_r0_s, f5_r0_s, K5⟩
 have z21 := K5.size
 have lt22 := O5_r0_s.lth
 refine qm rfl<|qd 13 rfl<|qm rfl<|qm rfl<|qm rfl ?_
 refine qv rfl (vv_mul (k := .i64) (a := 2) (b := p2) rfl rfl)<|qv rfl (vv_add (k := .i64) (a := w64 (2 * p2)) (b := 1) rfl rfl)<|qm rfl<|qm rfl<|qv rfl (vv_sub (k := .i64) (a := p4) (b := 1) rfl rfl)<|qm rfl<|qm rfl ?_
 refine qv rfl (vv_sub (k := .i64) (a := p5) (b := x3.2) rfl rfl) ?_
 have B23 := (B15.kz K5 (tk1 ((by have := lt6.o; have := ne0.o; have := ne1.o; have := ne2.o; have := ne3.o; have := ne4.o; (try simp only [Nin, InA, InZ, mz_map, Mz, or_true, true_or, and_true, List.mem_cons, List.mem_append, mem_zf, List.not_mem_nil, or_false, false_or, not_or, ne_eq, List.nil_append, List.cons_append, true_and, and_true, false_and, and_false, not_true_eq_false, not_false_eq_true, or_true, true_or]) <;> omega) : zp1 = 0 ∨ gp1 ≠ bp0)))
 have B24 := (B16.kz K5 (tk1 ((tk1 ne0.o) : zp0_7 = 0 ∨ zp1 = 0 ∨ gp0_7 ≠ gp1)))
 have B25 := (B17.kz K5 (tk1 ((tk1 ne1.o) : zp0_8 = 0 ∨ zp1 = 0 ∨ gp0_8 ≠ gp1)))
 have B26 := (B18.kz K5 (tk1 ((tk1 ne2.o) : zp0_9 = 0 ∨ zp1 = 0 ∨ gp0_9 ≠ gp1)))
 have B27 := (B19.kz K5 (tk1 ((tk1 ne3.o) : zp0_10 = 0 ∨ zp1 = 0 ∨ gp0_10 ≠ gp1)))
 obtain ⟨x6, hx6, hm⟩ := bnd hm
 refine qe rfl (eC en_43 rfl (ih p0 x5 (w64 ((w64 (2 * p2)) + 1)) a4 (w64 (p4 - 1)) (w64 (p5 - x3.2)) _ _ _ _ _ _ _ _ _ _ _ _ _ _ _ _ _ u5_r0_s z5_r0_s g5_r0_s _ hx6 _ B23 B24 B25 B26 B27 O5_r0_s ⟨(tk1 (pv_1 (A := (fun x => zp0_7 = 0 ∨ x ≠ gp0_7)) f5_r0_s (tk1 ne0.o) (fun x hx => (tk1 lt1.o))))⟩ ⟨(tk1 (pv_1 (A := (fun x => zp0_8 = 0 ∨ x ≠ gp0_8)) f5_r0_s (tk1 ne1.o) (fun x hx => (tk1 lt2.o))))⟩ ⟨(tk1 (pv_1 (A := (fun x => zp0_9 = 0 ∨ x ≠ gp0_9)) f5_r0_s (tk1 ne2.o) (fun x hx => (tk1 lt3.o))))⟩ ⟨(tk1 (pv_1 (A := (fun x => zp0_10 = 0 ∨ x ≠ gp0_10)) f5_r0_s (tk1 ne3.o) (fun x hx => (tk1 lt4.o))))⟩ ⟨(tk1 (pb_1 (b := bp0) f5_r0_s (by have := lt6.o; have := ne0.o; have := ne1.o; have := ne2.o; have := ne3.o; have := ne4.o; (try simp only [Nin, InA, InZ, mz_map, Mz, or_true, true_or, and_true, List.mem_cons, List.mem_append, mem_zf, List.not_mem_nil, or_false, false_or, not_or, ne_eq, List.nil_append, List.cons_append, true_and, and_true, false_and, and_false, not_true_eq_false, not_false_eq_true, or_true, true_or]) <;> omega)))⟩)) ?_
 rintro u6_r0_s w6 ⟨_, z6_r0_s, g6_r0_s, rfl, O6_r0_s, f6_r0_s, K6⟩
 have z28 := K6.size
 have lt29 := O6_r0_s.lth
 refine qm rfl<|sd_done<|sw_ret ?_
 have X30 := (((X13.kz K4).kz K5 (tk1 (tk0 : zp1 = 0 ∨ (gp1 = gp1 ∧ zp1 ≠ 0) ∨ w.heap.size ≤ gp1))).kz K6 (tk1 (pv_1 (A := (fun x => (x = gp1 ∧ zp1 ≠ 0) ∨ w.heap.size ≤ x)) f5_r0_s tk0)))
 cases hm
 refine ⟨_, _, rfl, res_1 rfl (rv_tmp rfl), ?_⟩
 exact ⟨u6_r0_s, z6_r0_s, g6_r0_s, rfl, O6_r0_s, ⟨(pv_1 (A := (fun x => (x = gp1 ∧ zp1 ≠ 0) ∨ w.heap.size ≤ x)) f6_r0_s (pv_1 (A := (fun x => (x = gp1 ∧ zp1 ≠ 0) ∨ w.heap.size ≤ x)) f5_r0_s tk0))⟩, X30⟩
theorem plan_tables_list_w (p0 : Tplan_tables) (p1 : List Int) (p2 : Int) (p3 : Int) (p4 : Int) (p5 : Int) (bp0 : Nat) (vp0_7 : Value) (zp0_7 gp0_7 op0_7 : Nat) (vp0_8 : Value) (zp0_8 gp0_8 op0_8 : Nat) (vp0_9 : Value) (zp0_9 gp0_9 op0_9 : Nat) (vp0_10 : Value) (zp0_10 gp0_10 op0_10 : Nat) (vp1 : Value) (zp1 gp1 : Nat) (r : List Int) (hm : plan_tables_list p0 p1 p2 p3 p4 p5 = some r) (w : World) (hbp0 : Bx w bp0 96 (Tplan_tables.cs p0 vp0_7 vp0_8 vp0_9 vp0_10)) (hp0_7 : Rd w zp0_7 gp0_7 op0_7 1 vp0_7 (p0.rows.a0.map ic)) (hp0_8 : Rd w zp0_8 gp0_8 op0_8 1 vp0_8 (p0.rows.a1.map ic)) (hp0_9 : Rd w zp0_9 gp0_9 op0_9 1 vp0_9 (p0.rows.a2.map ic)) (hp0_10 : Rd w zp0_10 gp0_10 op0_10 1 vp0_10 (p0.rows.a3.map ic)) (hp1 : Own w zp1 gp1 3 1 vp1 (p1.map ic)) (ne0 : Hdn (zp1 = 0 ∨ zp0_7 = 0 ∨ gp1 ≠ gp0_7)) (ne1 : Hdn (zp1 = 0 ∨ zp0_8 = 0 ∨ gp1 ≠ gp0_8)) (ne2 : Hdn (zp1 = 0 ∨ zp0_9 = 0 ∨ gp1 ≠ gp0_9)) (ne3 : Hdn (zp1 = 0 ∨ zp0_10 = 0 ∨ gp1 ≠ gp0_10)) (ne4 : Hdn (zp1 = 0 ∨ gp1 ≠ bp0)) :
    Calls Try.prog 43 [.pointer (some ⟨bp0, 0, none⟩), vp1, .int .i64 p2, .int .i64 p3, .int .i64 p4, .int .i64 p5].toArray w fun e w' => ∃ v, e = .returned v ∧ (∃ (ur0_s : Value) (zr0_s : Nat) (gr0_s : Nat), v = ur0_s ∧ Own w' zr0_s gr0_s 3 1 ur0_s (r.map ic) ∧ Hdn (zr0_s = 0 ∨ (gr0_s = gp1 ∧ zp1 ≠ 0) ∨ w.heap.size ≤ gr0_s) ∧ Kz [(zp1, gp1)] w w') :=
  plan_tables_list_i FUEL p0 p1 p2 p3 p4 p5 bp0 vp0_7 zp0_7 gp0_7 op0_7 vp0_8 zp0_8 gp0_8 op0_8 vp0_9 zp0_9 gp0_9 op0_9 vp0_10 zp0_10 gp0_10 op0_10 vp1 zp1 gp1 r hm w hbp0 hp0_7 hp0_8 hp0_9 hp0_10 hp1 ne0 ne1 ne2 ne3 ne4
theorem plan_Witness_w {p0 p1 r} (hm : plan_Witness p0 p1 = some r) {w : World} :
    Calls Try.prog 16 [.agg (TScheme.cs p0).toArray, .int .i64 p1].toArray w fun e w' => ∃ v, e = .returned v ∧ (∃ ur0_s zr0_s gr0_s, v = .tuple [ur0_s, .int .i64 r.2].toArray ∧ Own w' zr0_s gr0_s 3 1 ur0_s (r.1.map ic) ∧ Hdn (zr0_s = 0 ∨ w.heap.size ≤ gr0_s) ∧ Gr w w') := by
 unfold plan_Witness at hm
 refine calls_of_sw 30 Try.func16 rfl rfl rfl<|qs 3 rfl<|qe rfl (ev_box (cs := TScheme.cs p0) rfl rfl) ?_
 rintro _ w1 ⟨b1, rfl, hbw1, Bw1, G1⟩
 have z1 := G1.size
 have lt2 := Bw1.lt
 refine qm rfl<|qm rfl<|qd 8 rfl<|qv rfl (vv_loadW agg_26 rfl Bw1 rfl)<|qm rfl ?_
 refine sd_inl 23 Try.func38 rfl rfl rfl en_38 rfl rfl rfl rfl rfl<|qs 3 rfl<|qe rfl (ev_box (cs := TScheme.cs p0) rfl rfl) ?_
 rintro _ w2 ⟨b2, rfl, hbw2, Bw2, G2⟩
 have z3 := G2.size
 have lt4 := Bw2.lt
 refine qm rfl<|qm rfl<|sd_done<|sw_seq<|qs 3 rfl<|qv rfl (vv_loadW agg_26 rfl Bw2 rfl) ?_
 obtain ⟨x1, hx1, hm⟩ := bnd hm
 refine qe rfl (eC en_45 rfl (cover_Check_w hx1)) ?_
 rintro _ w3 ⟨rfl, G3⟩
 have z5 := G3.size
 refine qm rfl<|qd 2 rfl<|qm rfl<|qv rfl (vv_neq (a := x1) (b := 0) rfl rfl)<|sd_done ?_
 refine sw_cond rfl (fun c1 => ?_) (fun c1 => ?_)
 · replace hm := iT c1 hm
   refine qs 3 rfl<|qm rfl<|qm rfl<|qm rfl<|sd_done<|sw_ret ?_
   refine then_r<|⟨_, _, rfl, res_2 rfl (rv_tmp rfl) (rv_tmp rfl), ?_⟩
   refine qm rfl<|qm rfl<|qm rfl<|qm rfl<|qm rfl<|sd_done<|sw_seq ?_
   refine qs 2 rfl<|qm rfl<|qv rfl (vv_neq (a := x1) (b := 0) rfl rfl)<|sd_done<|cnF rfl (fun c2 => ?_) (fun c2 => ?_)
   · replace hm := iF c2 hm
     cases hm
   replace hm := iT c2 hm
   refine qs 3 rfl<|qm rfl<|qm rfl<|qm rfl<|sd_done<|sw_ret ?_
   refine then_r ?_
   have X6 := ((((Gr.refl w).trans G1).trans G2).trans G3)
   cases hm
   refine ⟨_, _, rfl, res_2 rfl (rv_tmp rfl) (rv_tmp rfl), ?_⟩
   exact ⟨(.slice none 0 0), 0, 0, rfl, (own_nil _ 0 3 1), ⟨.inl rfl⟩, X6⟩
 replace hm := iF c1 hm
 refine qu<|sw_seq ?_
 have X7 := ((((Gr.refl w).trans G1).trans G2).trans G3)
 refine qj (β := Bool) (rg 12 9) (fun a2 => [(20, .bool a2)]) (fun a2 wr => (plan_Witness_J1 p0 p1 a2 = some r) ∧ Kz [] w3 wr) ?_ ?_
 · refine qg 9 rfl<|qm rfl<|qv rfl (vv_lss (a := p1) (b := 0) rfl rfl)<|qp rfl (vv_move rfl) (fun c4 => ?_) (fun c4 => ?_)
   · replace hm := iT c4 hm
     refine qk rfl<|qk rfl<|qk rfl<|qk rfl<|qk rfl<|qm rfl<|sd_nil ?_
     exact ⟨rfl, true, sbq, hm, kz0⟩
   replace hm := iF c4 hm
   refine qm rfl<|qv rfl (vv_fieldAddr fa_26_1 rfl) ?_
   have B28 := (Bw2.gr G3)
   refine qv rfl (vv_load1 (v := .int .i64 p0.Depth) one_3 rfl B28 rfl) ?_
   obtain ⟨nn6, hnn6, hm⟩ := bnd hm
   refine qv rfl (vv_shlI (a := 1) (b := p0.Depth) rfl rfl hnn6)<|qv rfl (vv_gtr (a := p1) (b := shlI 1 nn6) rfl rfl)<|qm rfl<|sd_nil ?_
   exact ⟨rfl, (decide (shlI 1 nn6 < p1)), sbq, hm, kz0⟩
 clear hm; rintro a2 w4 ⟨hm, K4⟩
 have z8 := K4.size
 unfold plan_Witness_J1 at hm
 refine sw_cond rfl (fun c3 => ?_) (fun c3 => ?_)
 · replace hm := cnd_t c3 hm
   refine qs 2 rfl<|qm rfl<|qm rfl<|sd_done<|sw_ret<|then_r ?_
   refine ⟨_, _, rfl, res_2 rfl (rv_tmp rfl) (rv_tmp rfl), ?_⟩
   refine qm rfl<|qm rfl<|qm rfl<|qm rfl<|qm rfl<|sd_done<|sw_seq ?_
   refine qs 2 rfl<|qm rfl<|qv rfl (vv_neq (a := 2) (b := 0) rfl rfl)<|sd_done<|sw_condT rfl<|sw_seq ?_
   refine qg 3 rfl<|qm rfl<|qm rfl<|qm rfl<|sd_done<|sw_ret<|then_r ?_
   have X9 := (X7.kz K4)
   cases hm
   refine ⟨_, _, rfl, res_2 rfl (rv_tmp rfl) (rv_tmp rfl), ?_⟩
   exact ⟨(.slice none 0 0), 0, 0, rfl, (own_nil _ 0 3 1), ⟨.inl rfl⟩, X9⟩
 replace hm := cnd_f c3 hm
 refine qu<|qs 4 rfl ?_
 have B10 := ((Bw2.gr G3).kz K4)
 refine qv rfl (vv_loadW agg_26 rfl B10 rfl) ?_
 obtain ⟨x3, hx3, hm⟩ := bnd hm
 refine qe rfl (eC en_46 rfl (plan_newTables_w hx3)) ?_
 rintro _ w5 ⟨k5_p0_0, u5_p00_7, z5_p00_7, g5_p00_7, u5_p00_8, z5_p00_8, g5_p00_8, u5_p00_9, z5_p00_9, g5_p00_9, u5_p00_10, z5_p00_10, g5_p00_10, rfl, O5_p0_0, f5_p0_0, O5_p00_7, f5_p00_7, e5_p00_7, O5_p00_8, f5_p00_8, e5_p00_8, O5_p00_9, f5_p00_9, e5_p00_9, O5_p00_10, f5_p00_10, e5_p00_10, d5_0, d5_1, d5_2, d5_3, d5_4, d5_5, G5⟩
 have z11 := G5.size
 have lt12 := O5_p00_7.lth
 have lt13 := O5_p00_8.lth
 have lt14 := O5_p00_9.lth
 have lt15 := O5_p00_10.lth
 have lt16 := O5_p0_0.lt
 refine qm rfl<|qm rfl<|sd_done<|sw_ret<|⟨_, _, rfl, res_2 rfl (rv_tmp rfl) (rv_tmp rfl), ?_⟩
 refine qm rfl<|qm rfl<|qm rfl<|qm rfl<|qm rfl<|sd_done<|sw_seq ?_
 refine qs 2 rfl<|qm rfl<|qv rfl (vv_neq (a := 0) (b := 0) rfl rfl)<|sd_done<|sw_condF rfl<|sw_skip ?_
 refine then_n<|qs 8 rfl<|qm rfl<|qm rfl ?_
 obtain ⟨x4, hx4, hm⟩ := bnd hm
 refine qe rfl (eC en_39 rfl (plan_tables_worst_w hx4 O5_p0_0 (Own.rd O5_p00_7) (Own.rd O5_p00_8) (Own.rd O5_p00_9) (Own.rd O5_p00_10))) ?_
 rintro _ w6 ⟨rfl, G6⟩
 have z17 := G6.size
 refine qm rfl<|qm rfl<|qm rfl<|qm rfl<|qm rfl<|sd_done<|sw_seq ?_
 refine qg 7 rfl<|qm rfl<|qv rfl (vv_fieldAddr fa_26_1 rfl) ?_
 have B18 := (((((Bw1.gr G2).gr G3).kz K4).gr G5).gr G6)
 refine qv rfl (vv_load1 (v := .int .i64 p0.Depth) one_3 rfl B18 rfl)<|qm rfl ?_
 have B19 := (O5_p0_0.gr G6)
 have B20 := (O5_p00_7.gr G6)
 have B21 := (O5_p00_8.gr G6)
 have B22 := (O5_p00_9.gr G6)
 have B23 := (O5_p00_10.gr G6)
 obtain ⟨x5, hx5, hm⟩ := bnd hm
 refine qe rfl (eC en_43 rfl (plan_tables_list_w x3 ([] : List Int) 1 0 p0.Depth x4.2 _ _ _ _ _ _ _ _ _ _ _ _ _ _ _ _ _ (.slice none 0 0) 0 0 _ hx5 _ B19 (Own.rd B20) (Own.rd B21) (Own.rd B22) (Own.rd B23) (own_nil _ 0 3 1) ⟨tk0⟩ ⟨tk0⟩ ⟨tk0⟩ ⟨tk0⟩ ⟨tk0⟩)) ?_
 rintro u7_r0_s w7 ⟨_, z7_r0_s, g7_r0_s, rfl, O7_r0_s, f7_r0_s, K7⟩
 have z24 := K7.size
 have lt25 := O7_r0_s.lth
 refine qm rfl<|qm rfl<|sd_done<|sw_ret ?_
 have X26 := ((((X7.kz K4).trans G5).trans G6).kz K7)
 cases hm
 refine ⟨_, _, rfl, res_2 rfl (rv_tmp rfl) (rv_tmp rfl), ?_⟩
 exact ⟨u7_r0_s, z7_r0_s, g7_r0_s, rfl, O7_r0_s, ⟨(pv_1 (A := (fun x => w.heap.size ≤ x)) f7_r0_s (.inl rfl))⟩, X26⟩
end Go.Proofs.Ytopkalcefepilaa.Mx
