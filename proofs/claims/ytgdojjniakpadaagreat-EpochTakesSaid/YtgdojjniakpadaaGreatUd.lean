/- Walks that follow mirrors: Ud. Printed by mx.py. -/
import Derived.Test.YtgdojjniakpadaaGreatUc
import Derived.Test.YtgdojjniakpadaaGreatZd
set_option linter.unusedVariables false
set_option linter.unusedSimpArgs false
set_option maxRecDepth 100000
set_option maxHeartbeats 2000000
namespace Go.Proofs.YtgdojjniakpadaaGreat.Mx
open Go Go.RowKit Go.Sx
theorem Ha : FA Tryz.prog 50 0 0 := fun _ _ _ => by kernel_rfl
theorem Qzg : En Tryz.prog 321 := fun _ _ => by kernel_rfl
theorem Qzr : En Tryz.prog 361 := fun _ _ => by kernel_rfl
theorem Qzf : En Tryz.prog 320 := fun _ _ => by kernel_rfl
theorem Qqg : En Tryz.prog 217 := fun _ _ => by kernel_rfl
theorem Qwi : Pg Tryz.prog 34 0 50 2 [] := Qpf Tryz.underlying34 (Vk).siz
theorem Qhg : Dk Tryz.prog 34 50 2 16 := Fb Tryz.underlying34 rfl (by kernel_rfl)
theorem Na : FA Tryz.prog 52 2 2 := fun _ _ _ => by kernel_rfl
theorem Qqr : En Tryz.prog 318 := fun _ _ => by kernel_rfl
theorem Qkv : Pg Tryz.prog 34 1 50 2 [.int .u64 0, .int .u64 0] := Lv Tryz.underlying34 (Vk).siz Ug rfl rfl (by kernel_rfl)
theorem Gz : FA Tryz.prog 50 1 1 := fun _ _ _ => by kernel_rfl
theorem Qyr : En Tryz.prog 215 := fun _ _ => by kernel_rfl
theorem Qqw : En Tryz.prog 360 := fun _ _ => by kernel_rfl
theorem Qze : En Tryz.prog 319 := fun _ _ => by kernel_rfl
theorem Qqf : En Tryz.prog 216 := fun _ _ => by kernel_rfl
theorem Qys : En Tryz.prog 219 := fun _ _ => by kernel_rfl
theorem Qdz : CV Tryz.prog 24 2 .i64 := fun _ _ _ => by kernel_rfl
theorem Qxe : CV Tryz.prog 2 24 .u64 := fun _ _ _ => by kernel_rfl
theorem Qzh : En Tryz.prog 322 := fun _ _ => by kernel_rfl
theorem Qyt : En Tryz.prog 220 := fun _ _ => by kernel_rfl
theorem Qqh : En Tryz.prog 221 := fun _ _ => by kernel_rfl
theorem Qz2 : En Tryz.prog 294 := fun _ _ => by kernel_rfl
theorem Qzm : En Tryz.prog 350 := fun _ _ => by kernel_rfl
theorem Qzk : En Tryz.prog 349 := fun _ _ => by kernel_rfl
theorem Qz3 : En Tryz.prog 295 := fun _ _ => by kernel_rfl
theorem Qqi : En Tryz.prog 275 := fun _ _ => by kernel_rfl
theorem Xdw {p0 p1 bp1 r} (hm : Qiz p0 p1 = some r) {w : World} (hbp1 : Bx w bp1 50 (Qu.cs p1)) :
    Calls Tryz.prog 321 [.agg (Qu.cs p0).toArray, .pointer (some ⟨bp1, 0, none⟩)].toArray w fun e w' => ∃ v, e = .returned v ∧ (v = .bool r ∧ Gr w w') := by
 unfold Qiz at hm
 refine Xe 9 Tryz.func321 rfl rfl rfl<|qs 2 rfl<|qe rfl (Qy (cs := Qu.cs p0) rfl rfl) ?_
 rintro _ w1 ⟨b1, rfl, b, a, G1⟩
 refine qm rfl<|qd 6 rfl<|qv rfl (Qb Ha rfl)<|qv rfl (Qd (v := wv p0.X) Xm rfl a rfl)<|qv rfl (Qb Ha rfl) ?_
 have B4 := (hbp1.gr G1)
 refine qv rfl (Qd (v := wv p1.X) Xm rfl B4 rfl)<|qv rfl (Tp (c := p0.X) (d := p1.X) rfl rfl)<|qm rfl<|Qa<|Qo ?_
 have X5 := ((Gr.refl w).trans G1)
 cases hm
 refine ⟨_, _, rfl, Qt rfl (Qg rfl), ?_⟩
 exact ⟨rfl, X5⟩
theorem Xgn {p0 d vp0 zp0 gp0 op0 bp1_0 r} (hm : Qjy p0 d = some r) {w : World} (g : Rd w zp0 gp0 op0 2 vp0 (p0.map Qu.cs)) (hbp1_0 : Bx w bp1_0 50 (Qu.cs d)) :
    Calls Tryz.prog 361 [vp0, .func (.func 321) [].toArray [.pointer (some ⟨bp1_0, 0, none⟩)].toArray].toArray w fun e w' => ∃ v, e = .returned v ∧ (v = .int .i64 r ∧ Gr w w') := by
 unfold Qjy at hm
 refine Xe 19 Tryz.func361 rfl rfl rfl<|qs 1 rfl<|qm rfl<|Qa<|Qe<|qs 3 rfl<|qm rfl<|qv rfl (Zo (l := p0) (c := Qu.cs) Tryz.underlying34 rfl g)<|qm rfl<|Qa<|Xi<|Zq (α := Nat × Int) ([4, 5] ++ rg 8 11) (fun ⟨n1, a2⟩ => [(4, .int .i64 0), (8, .int .i64 a2)]) (fun ⟨n1, a2⟩ wr => (Qr (Qcw p0 d) n1 a2 = some r) ∧ Kz [] w wr) (fun ⟨n1, a2⟩ => n1) ⟨Xb, 0⟩ ?_ ?_ ?_
 · exact Qf
 · exact ⟨hm, Kz.refl _ _⟩
 clear hm; rintro ⟨n1, a2⟩ w1 ⟨hm, K1⟩
 have hb := Zx hm; clear hm; obtain ⟨n1, rfl, hm⟩ := hb
 generalize f : Qr (Qcw p0 d) n1 = m at hm
 unfold Qcw at hm
 try dsimp only at hm
 refine qs 1 rfl<|qv rfl (Zc (a := a2) (b := (p0.length : Int)) rfl rfl)<|Qa<|Qe<|Zu rfl (fun c1 => ?_) (fun c1 => ?_)
 · replace hm := iF c1 hm
   refine Zl<|Xk<|Xk<|Zk<|Xl<|qs 1 rfl<|qm rfl<|Qa<|Qo ?_
   have X9 := ((Gr.refl w).kz K1)
   cases hm
   refine ⟨_, _, rfl, Qt rfl (Qg rfl), ?_⟩
   exact ⟨rfl, X9⟩
 replace hm := iT c1 hm
 refine qu<|Qe<|Xi<|qs 2 rfl<|qm rfl<|qm rfl<|qd 6 rfl<|qm rfl<|qm rfl<|qm rfl ?_
 obtain ⟨y3, h, hm⟩ := Qc hm
 have B4 := (g.kz K1)
 refine qv rfl (Jm (i := a2) Tryz.underlying34 (Vk).siz rfl B4 rfl h)<|qv rfl (Hc Vk rfl B4 h (by first | rfl | omega)) ?_
 have B5 := (hbp1_0.kz K1)
 obtain ⟨x4, j, hm⟩ := Qc hm
 refine qe rfl (Dg Qzg rfl rfl (Xdw j B5)) ?_
 rintro _ w2 ⟨rfl, G2⟩
 refine Qa<|Xj rfl (fun c2 => ?_) (fun c2 => ?_)
 · replace hm := Xx c2 hm
   refine qs 2 rfl<|qm rfl<|qm rfl<|Qa<|Qo<|Zz<|Zf<|Zf<|Zz<|Zf ?_
   have X7 := (((Gr.refl w).kz K1).trans G2)
   cases hm
   refine ⟨_, _, rfl, Qt rfl (Qg rfl), ?_⟩
   exact ⟨rfl, X7⟩
 replace hm := Xw c2 hm
 refine Vi<|Xy<|Xl<|qg 2 rfl<|qv rfl (Zg (k := .i64) (a := a2) (b := 1) rfl rfl)<|qm rfl<|Qh ?_
 have K_8 : Kz [] w w2 := (K1.gr G2)
 subst f
 exact ⟨rfl, ⟨n1, Qi (a2 + 1)⟩, Qf, ⟨hm, K_8⟩, Nat.lt_succ_self _⟩
theorem Xgm {p0 c vp0 zp0 gp0 op0 bp1_0 r} (hm : Qgy p0 c = some r) {w : World} (d : Rd w zp0 gp0 op0 2 vp0 (p0.map Qu.cs)) (hbp1_0 : Bx w bp1_0 50 (Qu.cs c)) :
    Calls Tryz.prog 320 [vp0, .func (.func 321) [].toArray [.pointer (some ⟨bp1_0, 0, none⟩)].toArray].toArray w fun e w' => ∃ v, e = .returned v ∧ (v = .bool r ∧ Gr w w') := by
 unfold Qgy at hm
 refine Xe 9 Tryz.func320 rfl rfl rfl<|qs 1 rfl<|qm rfl<|qd 5 rfl<|qm rfl<|qm rfl ?_
 obtain ⟨x1, f, hm⟩ := Qc hm
 refine qe rfl (eC Qzr rfl (Xgn f d hbp1_0)) ?_
 rintro _ w1 ⟨rfl, G1⟩
 refine qv rfl (Kl (a := x1) (b := 0) rfl rfl)<|qm rfl<|Qa<|Qo ?_
 have X4 := ((Gr.refl w).trans G1)
 cases hm
 refine ⟨_, _, rfl, Qt rfl (Qg rfl), ?_⟩
 exact ⟨rfl, X4⟩
theorem Qta {p0 vp0 zp0 gp0 op0 r} (hm : Qbq p0 = some r) {w : World} (d : Rd w zp0 gp0 op0 2 vp0 (p0.map Qu.cs)) :
    Calls Tryz.prog 217 [vp0].toArray w fun e w' => ∃ v, e = .returned v ∧ (v = .bool r ∧ Gr w w') := by
 have h := d.lth
 unfold Qbq at hm
 refine Xe 18 Tryz.func217 rfl rfl rfl<|qs 1 rfl<|qm rfl<|Qa<|Qe<|qs 3 rfl<|qm rfl<|qv rfl (Zo (l := p0) (c := Qu.cs) Tryz.underlying34 rfl d)<|qm rfl<|Qa<|Xi<|Zq (α := Nat × Int) ([2, 3, 4] ++ rg 7 11) (fun ⟨n1, a2⟩ => [(2, .bool false), (7, .int .i64 a2)]) (fun ⟨n1, a2⟩ wr => (Qr (Al p0) n1 a2 = some r) ∧ Kz [] w wr) (fun ⟨n1, a2⟩ => n1) ⟨Xb, 0⟩ ?_ ?_ ?_
 · exact Qf
 · exact ⟨hm, Kz.refl _ _⟩
 clear hm; rintro ⟨n1, a2⟩ w1 ⟨hm, K1⟩
 have z2 := K1.size
 have hb := Zx hm; clear hm; obtain ⟨n1, rfl, hm⟩ := hb
 generalize f : Qr (Al p0) n1 = s at hm
 unfold Al at hm
 try dsimp only at hm
 refine qs 1 rfl<|qv rfl (Zc (a := a2) (b := (p0.length : Int)) rfl rfl)<|Qa<|Qe<|Zu rfl (fun c1 => ?_) (fun c1 => ?_)
 · replace hm := iF c1 hm
   refine Zl<|Xk<|Xk<|Zk<|Xl<|qs 1 rfl<|qm rfl<|Qa<|Qo ?_
   have j := ((Gr.refl w).kz K1)
   cases hm
   refine ⟨_, _, rfl, Qt rfl (Qg rfl), ?_⟩
   exact ⟨rfl, j⟩
 replace hm := iT c1 hm
 refine qu<|Qe<|Xi<|qs 6 rfl<|qm rfl ?_
 obtain ⟨y3, g, hm⟩ := Qc hm
 have B3 := (d.kz K1)
 refine qv rfl (Jm (i := a2) Tryz.underlying34 (Vk).siz rfl B3 rfl g)<|qv rfl (Hc Vk rfl B3 g (by first | rfl | omega))<|qe rfl (Xh (cs := Qu.cs (Qu.mk 0#64 0#64)) Ug rfl) ?_
 rintro _ w2 ⟨b2, rfl, t, m, G2⟩
 refine qm rfl<|qe rfl (Qx Vk rfl rfl rfl m rfl rfl) ?_
 rintro _ w3 ⟨n, M3⟩
 refine qd 5 rfl<|qm rfl<|qm rfl ?_
 obtain ⟨l4, o, hm⟩ := Qc hm
 have B7 := ((B3.gr G2).md M3 (Xd h))
 refine qt rfl (Qos (P := Tryz.prog) (lo := 0) (hi := a2) (l := p0) (c := Qu.cs) Tryz.underlying34 (Vk).siz rfl B7 rfl ⟨_, rfl⟩ o) ?_
 rintro v8 o8 R8
 refine qv rfl (Mv rfl rfl) ?_
 obtain ⟨x5, p, hm⟩ := Qc hm
 refine qe rfl (eC Qzf rfl (Xgm p R8 n)) ?_
 rintro _ w4 ⟨rfl, G4⟩
 refine Qa<|Xj rfl (fun c2 => ?_) (fun c2 => ?_)
 · replace hm := Xx c2 hm
   refine qs 1 rfl<|qm rfl<|Qa<|Qo<|Zz<|Zf<|Zf<|Zz<|Zf ?_
   have q := (((((Gr.refl w).kz K1).trans G2).md M3).trans G4)
   cases hm
   refine ⟨_, _, rfl, Qt rfl (Qg rfl), ?_⟩
   exact ⟨rfl, q⟩
 replace hm := Xw c2 hm
 refine Vi<|Xy<|Xl<|qg 2 rfl<|qv rfl (Zg (k := .i64) (a := a2) (b := 1) rfl rfl)<|qm rfl<|Qh ?_
 have K_12 : Kz [] w w4 := (((K1.gr G2).md M3).gr G4)
 subst f
 exact ⟨rfl, ⟨n1, Qi (a2 + 1)⟩, Qf, ⟨hm, K_12⟩, Nat.lt_succ_self _⟩
theorem Qut {p0 vp0 zp0 gp0 op0 r} (hm : Qjw p0 = some r) {w : World} (b : Rd w zp0 gp0 op0 2 vp0 (p0.map Qu.cs)) :
    Calls Tryz.prog 318 [vp0].toArray w fun e w' => ∃ v, e = .returned v ∧ (∃ ur0_s zr0_s gr0_s, v = ur0_s ∧ Qn w' zr0_s gr0_s 50 2 ur0_s (r.map Qu.cs) ∧ Zm (zr0_s = 0 ∨ w.heap.size ≤ gr0_s) ∧ Gr w w') := by
 unfold Qjw at hm
 refine Xe 8 Tryz.func318 rfl rfl rfl<|qs 1 rfl<|qm rfl<|Qa<|Qe<|qs 2 rfl<|qm rfl ?_
 rcases Qtq b with ⟨d, a, f⟩ | ⟨t, u, d, a⟩
 · replace hm : (some []) = some r := by rw [f] at hm; exact hm
   refine qv rfl (Qkb Tryz.underlying34 rfl a)<|Qa<|Ry rfl<|qs 1 rfl<|qm rfl<|qb ?_
   cases hm
   refine ⟨_, _, rfl, Qt rfl (Qg rfl), ?_⟩
   exact ⟨(.slice none 0 0), 0, 0, rfl, (Ji _ 0 50 2), ⟨.inl rfl⟩, (Gr.refl w)⟩
 skip
 refine qv rfl (Qkb Tryz.underlying34 rfl a)<|Qa<|Sr rfl<|qu<|qs 4 rfl<|qe rfl (Ve ([] : List Qu) Qu.cs Qwi rfl rfl (Kx rfl) rfl rfl rfl) ?_
 rintro y w1 ⟨g, s, h, G1⟩
 have z3 := G1.size
 refine qm rfl ?_
 have B5 := (b.gr G1)
 obtain ⟨l1, i, hm⟩ := Qc hm
 refine qe rfl (Vl (l := ([] : List Qu)) (m := p0) (c := Qu.cs) Qhg rfl rfl h B5 i (by decide)) ?_
 rintro j w2 ⟨k, n, o, p, z, q⟩
 refine qm rfl<|Qa<|Qo ?_
 have X7 := (((Gr.refl w).trans G1).ka p (Qk ((.inr Qj) : 1 = 0 ∨ w.heap.size ≤ g)))
 cases hm
 refine ⟨_, _, rfl, Qt rfl (Qg rfl), ?_⟩
 exact ⟨j, k, n, rfl, o, ⟨(Jg (A := (fun x => w.heap.size ≤ x)) q (.inr Qj))⟩, X7⟩
theorem Xdz {p0 p1 p2 vp1_1 zp1_1 gp1_1 op1_1 vp2_0 zp2_0 gp2_0 op2_0 vp2_2 zp2_2 gp2_2 op2_2 r} (hm : Qfe p0 p1 p2 = some r) {w : World} (av : Rd w zp1_1 gp1_1 op1_1 18 vp1_1 (p1.Labels.map Xn.cs)) (L : Rd w zp2_0 gp2_0 op2_0 18 vp2_0 (p2.Items.map Zd.cs)) (n : Rd w zp2_2 gp2_2 op2_2 2 vp2_2 (p2.Points.map Qu.cs)) :
    Calls Tryz.prog 215 [.agg (Qs.cs p0).toArray, .agg (Qq.cs p1 vp1_1).toArray, .agg (Zi.cs p2 vp2_0 vp2_2).toArray].toArray w fun e w' => ∃ v, e = .returned v ∧ (v = .bool r ∧ Gr w w') := by
 unfold Qfe at hm
 refine Xe 91 Tryz.func215 rfl rfl rfl<|qs 4 rfl<|qe rfl (Qy (cs := Qs.cs p0) rfl rfl) ?_
 rintro _ w1 ⟨b1, rfl, aQ, B, G1⟩
 have a6 := B.lt
 refine qe rfl (Qy (cs := Qq.cs p1 vp1_1) rfl rfl) ?_
 rintro _ w2 ⟨b2, rfl, aR, M, G2⟩
 have a7 := M.lt
 refine qe rfl (Qy (cs := Zi.cs p2 vp2_0 vp2_2) rfl rfl) ?_
 rintro _ w3 ⟨b3, rfl, aS, o, G3⟩
 have ba := o.lt
 refine qm rfl<|Qa<|Xh6 ?_
 have Y1 := Gr.trans (Gr.trans G1 G2) G3
 have aw := ((Gr.refl w).trans Y1)
 refine qj (β := Bool) ([7] ++ rg 10 30) (fun a1 => [(7, .bool a1)]) (fun a1 wr => (Rh p0 p1 p2 a1 = some r) ∧ Kz [] w3 wr) ?_ ?_
 · refine qg 31 rfl<|qv rfl (Qb Wg rfl)<|qv rfl (Qd (v := vp2_0) Wh rfl o rfl) ?_
   have ax := (L.gr Y1)
   refine qv rfl (Zo (l := p2.Items) (c := Zd.cs) Tryz.underlying33 rfl ax)<|qv rfl (Jr (a := (p2.Items.length : Int)) (b := 0) rfl rfl)<|Jh rfl (Qm rfl) (fun c7 => ?_) (fun c7 => ?_)
   · replace hm := iF c7 hm
     refine qk rfl<|qk rfl<|qk rfl<|qm rfl<|qm rfl<|qk rfl<|qk rfl<|qk rfl<|qk rfl<|qk rfl<|qk rfl<|qm rfl<|qm rfl<|qk rfl<|qk rfl<|qk rfl<|qk rfl<|qk rfl<|qk rfl<|qm rfl<|qm rfl<|qk rfl<|qk rfl<|qk rfl<|qm rfl ?_
     refine qm rfl<|Qh ?_
     exact ⟨rfl, false, Qf, hm, Qz⟩
   replace hm := iT c7 hm
   refine qv rfl (Qb Gy rfl)<|qv rfl (Qd (v := wv p2.Base) Xm rfl o rfl)<|qv rfl (Np (c := p2.Base) (d := 1#64) rfl rfl)<|qm rfl<|Jh rfl (Qm rfl) (fun c8 => ?_) (fun c8 => ?_)
   · replace hm := iF c8 hm
     refine qk rfl<|qk rfl<|qk rfl<|qk rfl<|qk rfl<|qk rfl<|qm rfl<|qm rfl<|qk rfl<|qk rfl<|qk rfl<|qk rfl<|qk rfl<|qk rfl<|qm rfl<|qm rfl<|qk rfl<|qk rfl<|qk rfl<|qm rfl<|qm rfl<|Qh ?_
     exact ⟨rfl, false, Qf, hm, Qz⟩
   replace hm := iT c8 hm
   refine qv rfl (Qb Gy rfl)<|qv rfl (Qd (v := wv p2.Base) Xm rfl o rfl)<|qv rfl (Qb Wz rfl)<|qv rfl (Qb Dh rfl) ?_
   have Y2 := Gr.trans G2 G3
   have W := (B.gr Y2)
   refine qv rfl (Qd (v := wv p0.Group.P) Xm rfl W rfl)<|qv rfl (Nr (c := p2.Base) (d := p0.Group.P) rfl rfl)<|qm rfl<|Jh rfl (Qm rfl) (fun c9 => ?_) (fun c9 => ?_)
   · replace hm := iF c9 hm
     refine qk rfl<|qk rfl<|qk rfl<|qk rfl<|qk rfl<|qk rfl<|qm rfl<|qm rfl<|qk rfl<|qk rfl<|qk rfl<|qm rfl<|qm rfl<|Qh ?_
     exact ⟨rfl, false, Qf, hm, Qz⟩
   replace hm := iT c9 hm
   refine qv rfl (Qb Yw rfl)<|qv rfl (Qd (v := vp2_2) Yx rfl o rfl) ?_
   have Z := (n.gr Y1)
   refine qv rfl (Zo (l := p2.Points) (c := Qu.cs) Tryz.underlying34 rfl Z)<|qv rfl (Qb La rfl)<|qv rfl (Qd (v := .int .i64 p0.Degree) Qv rfl W rfl)<|qv rfl (Jr (a := (p2.Points.length : Int)) (b := p0.Degree) rfl rfl)<|qm rfl<|Jh rfl (Qm rfl) (fun N => ?_) (fun N => ?_)
   · replace hm := iF N hm
     refine qk rfl<|qk rfl<|qk rfl<|qm rfl<|qm rfl<|Qh ?_
     exact ⟨rfl, false, Qf, hm, Qz⟩
   replace hm := iT N hm
   refine qv rfl (Qb Yw rfl)<|qv rfl (Qd (v := vp2_2) Yx rfl o rfl) ?_
   obtain ⟨ay, aa, hm⟩ := Qc hm
   refine qe rfl (eC Qqg rfl (Qta aa Z)) ?_
   rintro _ bb ⟨rfl, az⟩
   refine qm rfl<|qm rfl<|Qh ?_
   exact ⟨rfl, ay, Qf, hm, (Qz.gr az)⟩
 clear hm; rintro a1 w4 ⟨hm, K4⟩
 have bd := K4.size
 unfold Rh at hm
 refine Qe<|Xh2<|Xl ?_
 have ab := (aw.kz K4)
 refine qj (β := Bool) ([7, 9] ++ rg 40 41) (fun a2 => [(7, .bool a2)]) (fun a2 wr => (Qbr p0 p1 a2 = some r) ∧ Kz [] w4 wr) ?_ ?_
 · refine qj (β := List Qu × Int × Value × Nat × Nat) (rg 40 11) (fun ⟨a3, a5, vy4, zy4, gy4⟩ => [(48, vy4), (49, .int .i64 a5), (50, .int .i64 0)]) (fun ⟨a3, a5, vy4, zy4, gy4⟩ wr => (Qj0 p0 p1 a1 a3 a5 = some r) ∧ Qn wr zy4 gy4 50 2 vy4 (a3.map Qu.cs) ∧ Zm (zy4 = 0 ∨ w4.heap.size ≤ gy4) ∧ Kz [] w4 wr) ?_ ?_
   · refine dw [([])] [] (.fork [(0,10),(1,10),(3,10),(4,10),(5,10),(6,10),(10,10)] (.leaf [(2,0),(7,0),(8,0),(9,0)]) (.leaf [(7,0),(2,0),(8,0),(9,0)])) ?_
     intro ac p aT
     refine Pb<|dh 0 rfl rfl (fun w hS => Qb Yw rfl) ?_
     have aA := ((o.kz K4).gr p)
     refine dh 0 rfl rfl (fun w hS => Qd (v := vp2_2) Yx rfl (Bx.kp aA hS) rfl)<|dh 0 rfl rfl (fun w hS => Qb Na rfl)<|dh 0 rfl rfl (fun w hS => Qb Ha rfl) ?_
     have aB := (((M.gr G3).kz K4).gr p)
     refine dh 0 rfl rfl (fun w hS => Qd (v := wv p1.Share.X) Xm rfl (Bx.kp aB hS) rfl)<|dh 0 rfl rfl (fun w hS => Zv (cs := Qu.cs (Qu.mk p1.Share.X 1#64)) Qhk rfl rfl)<|dm 0 rfl rfl<|Hz ?_ ?_
     · refine Zj ?_
       have aC := (((n.gr Y1).kz K4).gr p)
       obtain ⟨aD, ad, hm⟩ := Qc hm
       refine qz [] rfl (eC Qqr rfl (Qut ad aC)) ⟨fun _ => Qj, trivial⟩ ?_
       rintro U bf ⟨_, q, s, rfl, t, f, O⟩
       have bg := O.size
       refine kG O<|qz [] rfl (Ve [(Qu.mk p1.Share.X 1#64)] Qu.cs Qkv rfl rfl (Kx rfl) rfl rfl rfl) ⟨fun _ => Qj, trivial⟩ ?_
       rintro aU bh ⟨aV, aE, ae, C⟩
       have bi := C.size
       refine kG C ?_
       have aF := (t.gr C)
       obtain ⟨R, af, hm⟩ := Qc hm
       refine qz [(q, s)] rfl (Vl (l := aD) (m := [(Qu.mk p1.Share.X 1#64)]) (c := Qu.cs) Qhg rfl rfl aF (Qn.rd ae) af (by decide)) ⟨fun _ => (Qk (Jf (A := (fun x => ac.heap.size ≤ x)) f)), trivial⟩ ?_
       rintro ag bj ⟨ah, ai, G, H, aW, aj⟩
       refine ⟨Kz.ofKa H, ?_⟩
       refine qw rfl (Zo (l := R) (c := Qu.cs) Tryz.underlying34 rfl (Qn.rd G))<|Qh ?_
       exact ⟨rfl, ⟨R, (R.length : Int), ag, ah, ai⟩, Qf, hm, G, ⟨(Jg (A := (fun x => w4.heap.size ≤ x)) aj (Jf (A := (fun x => w4.heap.size ≤ x)) f))⟩, ((((Qz.gr p).gr O).gr C).ka H (Qk (Jf (A := (fun x => w4.heap.size ≤ x)) f)))⟩
     refine Zj<|qz [] rfl (Ve [(Qu.mk p1.Share.X 1#64)] Qu.cs Qkv rfl rfl (Kx rfl) rfl rfl rfl) ⟨fun _ => Qj, trivial⟩ ?_
     rintro aX bk ⟨aY, aG, ak, D⟩
     have bl := D.size
     refine kG D ?_
     have aH := ((((n.gr Y1).kz K4).gr p).gr D)
     obtain ⟨aI, al, hm⟩ := Qc hm
     refine qz [] rfl (eC Qqr rfl (Qut al aH)) ⟨fun _ => Qj, trivial⟩ ?_
     rintro V bm ⟨_, u, y, rfl, z, g, E⟩
     have bo := E.size
     refine kG E ?_
     have aJ := (ak.gr E)
     obtain ⟨S, am, hm⟩ := Qc hm
     refine qz [(u, y)] rfl (Vl (l := aI) (m := [(Qu.mk p1.Share.X 1#64)]) (c := Qu.cs) Qhg rfl rfl z (Qn.rd aJ) am (by decide)) ⟨fun _ => (Qk (Jf (A := (fun x => ac.heap.size ≤ x)) g)), trivial⟩ ?_
     rintro an bp ⟨ao, ap, I, J, aZ, aq⟩
     refine ⟨Kz.ofKa J, ?_⟩
     refine qw rfl (Zo (l := S) (c := Qu.cs) Tryz.underlying34 rfl (Qn.rd I))<|Qh ?_
     exact ⟨rfl, ⟨S, (S.length : Int), an, ao, ap⟩, Qf, hm, I, ⟨(Jg (A := (fun x => w4.heap.size ≤ x)) aq (Jf (A := (fun x => w4.heap.size ≤ x)) g))⟩, ((((Qz.gr p).gr D).gr E).ka J (Qk (Jf (A := (fun x => w4.heap.size ≤ x)) g)))⟩
   clear hm; rintro ⟨a3, a5, vy4, zy4, gy4⟩ w6 ⟨hm, T, aK, K6⟩
   have bq := K6.size
   unfold Qj0 at hm
   refine Xi ?_
   refine Zq (α := Nat × Bool × Int) ([7, 9] ++ rg 50 31) (fun ⟨n4, a8, a9⟩ => [(7, .bool a8), (50, .int .i64 a9)]) (fun ⟨n4, a8, a9⟩ wr => (Qr (An p0 p1 a3 a5) n4 (a8, a9) = some r) ∧ Kz [] w6 wr) (fun ⟨n4, a8, a9⟩ => n4) ⟨Xb, a1, 0⟩ ?_ ?_ ?_
   · exact Qf
   · exact ⟨hm, Kz.refl _ _⟩
   clear hm; rintro ⟨n4, a8, a9⟩ w7 ⟨hm, K7⟩
   have br := K7.size
   have hb := Zx hm; clear hm; obtain ⟨n4, rfl, hm⟩ := hb
   generalize h : Qr (An p0 p1 a3 a5) n4 = a0 at hm
   unfold An at hm
   try dsimp only at hm
   refine qs 1 rfl<|qv rfl (Zc (a := a9) (b := a5) rfl rfl)<|Qa<|Qe<|Zu rfl (fun c2 => ?_) (fun c2 => ?_)
   · replace hm := iF c2 hm
     refine Zl<|Xk<|Xk<|Zk ?_
     exact ⟨rfl, a8, Qf, hm, ((Qz.kz K6).kz K7)⟩
   replace hm := iT c2 hm
   refine qu<|Qe<|Xi<|qs 4 rfl ?_
   obtain ⟨j, K, hm⟩ := Qc hm
   have ar := (T.kz K7)
   refine qv rfl (Jm (i := a9) Tryz.underlying34 (Vk).siz rfl (Qn.rd ar) rfl K)<|qv rfl (Hc Vk rfl (Qn.rd ar) K (by first | rfl | omega))<|qe rfl (Xh (cs := Qu.cs (Qu.mk 0#64 0#64)) Ug rfl) ?_
   rintro _ w8 ⟨b8, rfl, a4, aL, G8⟩
   refine qe rfl (Qx Vk rfl rfl rfl aL rfl rfl) ?_
   rintro _ w9 ⟨F, M9⟩
   refine Qa<|Qe<|qs 2 rfl<|qm rfl<|qv rfl (Jb rfl)<|Qa<|Xj rfl (fun c3 => ?_) (fun c3 => ?_)
   · replace hm := Xx c3 hm
     refine Zl<|Xk<|Qp8 rfl<|Xk<|Xk<|Zk ?_
     exact ⟨rfl, a8, Qf, hm, ((((Qz.kz K6).kz K7).gr G8).md M9)⟩
   replace hm := Xw c3 hm
   refine qu<|qg 25 rfl<|qv rfl (Qb Ha rfl)<|qv rfl (Qd (v := wv j.X) Xm rfl F rfl)<|qv rfl (Np (c := j.X) (d := 1#64) rfl rfl)<|Jh rfl (Qm rfl) (fun c4 => ?_) (fun c4 => ?_)
   · replace hm := iF c4 hm
     refine qk rfl<|qk rfl<|qk rfl<|qk rfl<|qk rfl<|qk rfl<|qm rfl<|qm rfl<|qk rfl<|qk rfl<|qk rfl<|qm rfl<|qm rfl<|qk rfl<|qk rfl<|qk rfl<|qk rfl<|qk rfl<|qk rfl<|qm rfl<|qm rfl<|Qh<|Xy<|Xl<|qg 2 rfl ?_
     refine qv rfl (Zg (k := .i64) (a := a9) (b := 1) rfl rfl)<|qm rfl<|Qh ?_
     have K_34 : Kz [] w6 w9 := ((K7.gr G8).md M9)
     subst h
     exact ⟨rfl, ⟨n4, false, Qi (a9 + 1)⟩, Qf, ⟨hm, K_34⟩, Nat.lt_succ_self _⟩
   replace hm := iT c4 hm
   refine qv rfl (Qb Ha rfl)<|qv rfl (Qd (v := wv j.X) Xm rfl F rfl)<|qv rfl (Qb Wz rfl)<|qv rfl (Qb Hu rfl) ?_
   have Y3 := Gr.trans G2 G3
   have au := ((((((B.gr Y3).kz K4).kz K6).kz K7).gr G8).md M9)
   refine qv rfl (Qd (v := wv p0.Group.Q) Xm rfl au rfl)<|qv rfl (Nr (c := j.X) (d := p0.Group.Q) rfl rfl)<|qm rfl<|Jh rfl (Qm rfl) (fun c5 => ?_) (fun c5 => ?_)
   · replace hm := iF c5 hm
     refine qk rfl<|qk rfl<|qk rfl<|qm rfl<|qm rfl<|qk rfl<|qk rfl<|qk rfl<|qk rfl<|qk rfl<|qk rfl<|qm rfl<|qm rfl<|Qh<|Xy<|Xl<|qg 2 rfl<|qv rfl (Zg (k := .i64) (a := a9) (b := 1) rfl rfl)<|qm rfl<|Qh ?_
     have K_33 : Kz [] w6 w9 := ((K7.gr G8).md M9)
     subst h
     exact ⟨rfl, ⟨n4, false, Qi (a9 + 1)⟩, Qf, ⟨hm, K_33⟩, Nat.lt_succ_self _⟩
   replace hm := iT c5 hm
   refine qv rfl (Qb Gz rfl)<|qv rfl (Qd (v := wv j.Y) Xm rfl F rfl)<|qv rfl (Np (c := j.Y) (d := 1#64) rfl rfl)<|qm rfl<|Jh rfl (Qm rfl) (fun c6 => ?_) (fun c6 => ?_)
   · replace hm := iF c6 hm
     refine qk rfl<|qk rfl<|qk rfl<|qk rfl<|qk rfl<|qk rfl<|qm rfl<|qm rfl<|Qh<|Xy<|Xl<|qg 2 rfl<|qv rfl (Zg (k := .i64) (a := a9) (b := 1) rfl rfl)<|qm rfl<|Qh ?_
     have K_32 : Kz [] w6 w9 := ((K7.gr G8).md M9)
     subst h
     exact ⟨rfl, ⟨n4, false, Qi (a9 + 1)⟩, Qf, ⟨hm, K_32⟩, Nat.lt_succ_self _⟩
   replace hm := iT c6 hm
   refine qv rfl (Qb Gz rfl)<|qv rfl (Qd (v := wv j.Y) Xm rfl F rfl)<|qv rfl (Qb Wz rfl)<|qv rfl (Qb Dh rfl)<|qv rfl (Qd (v := wv p0.Group.P) Xm rfl au rfl)<|qv rfl (Nr (c := j.Y) (d := p0.Group.P) rfl rfl)<|qm rfl<|qm rfl<|Qh<|Xy<|Xl<|qg 2 rfl<|qv rfl (Zg (k := .i64) (a := a9) (b := 1) rfl rfl)<|qm rfl<|Qh ?_
   have K_31 : Kz [] w6 w9 := ((K7.gr G8).md M9)
   subst h
   exact ⟨rfl, ⟨n4, decide (j.Y < p0.Group.P), Qi (a9 + 1)⟩, Qf, ⟨hm, K_31⟩, Nat.lt_succ_self _⟩
 clear hm; rintro a2 w5 ⟨hm, K5⟩
 unfold Qbr at hm
 refine qs 11 rfl<|qm rfl<|Jh rfl (Qm rfl) (fun c1 => ?_) (fun c1 => ?_)
 · replace hm := Xw c1 hm
   refine qk rfl<|qk rfl<|qk rfl<|qk rfl<|qk rfl<|qk rfl<|qk rfl<|qm rfl<|qm rfl<|Qa<|Qo<|Quo ?_
   have aM := (ab.kz K5)
   cases hm
   refine ⟨_, _, rfl, Qt rfl (Qg rfl), ?_⟩
   exact ⟨rfl, aM⟩
 replace hm := Xx c1 hm
 refine qv rfl (Qb Na rfl)<|qv rfl (Qb Gz rfl) ?_
 have aN := (((M.gr G3).kz K4).kz K5)
 refine qv rfl (Qd (v := wv p1.Share.Y) Xm rfl aN rfl)<|qv rfl (Qb Wz rfl)<|qv rfl (Qb Hu rfl) ?_
 have Y4 := Gr.trans G2 G3
 have aO := (((B.gr Y4).kz K4).kz K5)
 refine qv rfl (Qd (v := wv p0.Group.Q) Xm rfl aO rfl)<|qv rfl (Nr (c := p1.Share.Y) (d := p0.Group.Q) rfl rfl)<|qm rfl<|qm rfl<|Qa<|Qo<|Quo ?_
 have aP := (ab.kz K5)
 cases hm
 refine ⟨_, _, rfl, Qt rfl (Qg rfl), ?_⟩
 exact ⟨rfl, aP⟩
theorem Qsv {p0 r} (hm : Qbm p0 = some r) {w : World} :
    Calls Tryz.prog 360 [wv p0].toArray w fun e w' => ∃ v, e = .returned v ∧ (v = .bool r ∧ Gr w w') := by
 unfold Qbm at hm
 refine Xe 9 Tryz.func360 rfl rfl rfl<|qs 1 rfl<|qm rfl<|qd 7 rfl<|qm rfl<|qv rfl (Np (c := p0) (d := 1#64) rfl rfl)<|qp rfl (Qm rfl) (fun c1 => ?_) (fun c1 => ?_)
 · replace hm := iT c1 hm
   refine qm rfl<|qv rfl (Nr (c := p0) (d := 4294967296#64) rfl rfl)<|qm rfl<|qm rfl<|Qa<|Qo ?_
   cases hm
   refine ⟨_, _, rfl, Qt rfl (Qg rfl), ?_⟩
   exact ⟨rfl, (Gr.refl w)⟩
 replace hm := iF c1 hm
 refine qk rfl<|qk rfl<|qm rfl<|qm rfl<|Qa<|Qo ?_
 cases hm
 refine ⟨_, _, rfl, Qt rfl (Qg rfl), ?_⟩
 exact ⟨rfl, (Gr.refl w)⟩
theorem Xcz {p0 p1 p2 r} (hm : Qf2 p0 p1 p2 = some r) {w : World} :
    Calls Tryz.prog 319 [wv p0, wv p1, wv p2].toArray w fun e w' => ∃ v, e = .returned v ∧ (v = .tuple [wv r.1, .int .i64 r.2].toArray ∧ Gr w w') := by
 unfold Qf2 at hm
 refine Xe 15 Tryz.func319 rfl rfl rfl<|qs 2 rfl<|qm rfl<|qm rfl<|Qa<|Qe<|qs 3 rfl<|qm rfl ?_
 obtain ⟨x1, a, hm⟩ := Qc hm
 refine qe rfl (eC Qqw rfl (Qsv a)) ?_
 rintro _ w1 ⟨rfl, G1⟩
 refine qv rfl (Jb rfl)<|Qa<|Xj rfl (fun c1 => ?_) (fun c1 => ?_)
 · replace hm := Xx c1 hm
   refine qs 2 rfl<|qm rfl<|qm rfl<|qb ?_
   have X2 := ((Gr.refl w).trans G1)
   cases hm
   refine ⟨_, _, rfl, Zb rfl (Qg rfl) (Qg rfl), ?_⟩
   exact ⟨rfl, X2⟩
 replace hm := Xw c1 hm
 refine qu<|qs 6 rfl<|qm rfl<|qm rfl<|qm rfl ?_
 obtain ⟨x2, b, hm⟩ := Qc hm
 refine qe rfl (eC Qqv rfl (Qsw b)) ?_
 rintro _ w2 ⟨rfl, G2⟩
 refine qm rfl<|qm rfl<|Qa<|Qo ?_
 have X4 := (((Gr.refl w).trans G1).trans G2)
 cases hm
 refine ⟨_, _, rfl, Zb rfl (Qg rfl) (Qg rfl), ?_⟩
 exact ⟨rfl, X4⟩
theorem Qtc {p0 p1 p2 r} (hm : Qbt p0 p1 p2 = some r) {w : World} :
    Calls Tryz.prog 216 [.agg (Qs.cs p0).toArray, wv p1, wv p2].toArray w fun e w' => ∃ v, e = .returned v ∧ (v = wv r ∧ Gr w w') := by
 unfold Qbt at hm
 refine Xe 19 Tryz.func216 rfl rfl rfl<|qs 2 rfl<|qe rfl (Qy (cs := Qs.cs p0) rfl rfl) ?_
 rintro _ w1 ⟨b1, rfl, c, a, G1⟩
 refine qm rfl<|qd 11 rfl<|qm rfl<|qm rfl<|qv rfl (Qb Wz rfl)<|qv rfl (Qb Dh rfl)<|qv rfl (Qd (v := wv p0.Group.P) Xm rfl a rfl) ?_
 obtain ⟨x1, b, hm⟩ := Qc hm
 refine qe rfl (eC Qze rfl (Xcz b)) ?_
 rintro _ w2 ⟨rfl, G2⟩
 refine qm rfl<|qm rfl<|qm rfl<|qm rfl<|qm rfl<|qd 2 rfl<|qm rfl<|qm rfl<|Qa<|Qo ?_
 have X4 := (((Gr.refl w).trans G1).trans G2)
 cases hm
 refine ⟨_, _, rfl, Qt rfl (Qg rfl), ?_⟩
 exact ⟨rfl, X4⟩
theorem Xdy {p0 p1 p2 r} (hm : Qfd p0 p1 p2 = some r) {w : World} :
    Calls Tryz.prog 219 [wv p0, wv p1, wv p2].toArray w fun e w' => ∃ v, e = .returned v ∧ (v = wv r ∧ Gr w w') := by
 unfold Qfd at hm
 refine Xe 14 Tryz.func219 rfl rfl rfl<|qs 1 rfl<|qm rfl<|qd 8 rfl<|qm rfl<|qm rfl<|qv rfl (Te (a := p1) (b := p0) rfl rfl)<|qm rfl<|qv rfl (Mw (a := p1 + p0) (b := p2) rfl rfl)<|qm rfl ?_
 obtain ⟨x1, f, hm⟩ := Qc hm
 refine qv rfl (Vm (c := (p1 + p0) - p2) (d := p0) rfl rfl f)<|qm rfl<|Qa<|Qo ?_
 cases hm
 refine ⟨_, _, rfl, Qt rfl (Qg rfl), ?_⟩
 exact ⟨rfl, (Gr.refl w)⟩
theorem Xcy {p0 p1 r} (hm : Qbk p0 p1 = some r) {w : World} :
    Calls Tryz.prog 322 [wv p0, wv p1].toArray w fun e w' => ∃ v, e = .returned v ∧ (v = .tuple [wv r.1, .int .i64 r.2].toArray ∧ Gr w w') := by
 unfold Qbk at hm
 refine Xe 50 Tryz.func322 rfl rfl rfl<|qs 2 rfl<|qm rfl<|qm rfl<|Qa<|Qe<|qs 3 rfl<|qm rfl ?_
 obtain ⟨x1, n, hm⟩ := Qc hm
 refine qe rfl (eC Qqw rfl (Qsv n)) ?_
 rintro _ w1 ⟨rfl, G1⟩
 refine qv rfl (Jb rfl)<|Qa<|Xj rfl (fun c1 => ?_) (fun c1 => ?_)
 · replace hm := Xx c1 hm
   refine qs 2 rfl<|qm rfl<|qm rfl<|qb ?_
   have X2 := ((Gr.refl w).trans G1)
   cases hm
   refine ⟨_, _, rfl, Zb rfl (Qg rfl) (Qg rfl), ?_⟩
   exact ⟨rfl, X2⟩
 replace hm := Xw c1 hm
 refine qu<|Qe<|dw [([])] [] (.leaf [(0,10),(1,10),(2,10),(3,10),(4,10),(5,10),(6,10),(7,10)]) ?_
 intro w2 G2 q
 refine Zj<|dm 0 rfl rfl<|dh 0 rfl rfl (fun w hS => Qh3 Qdz rfl)<|dm 0 rfl rfl<|dm 0 rfl rfl ?_
 obtain ⟨x2, o, hm⟩ := Qc hm
 refine dh 0 rfl rfl (fun w hS => Vm (c := p0) (d := p1) rfl rfl o)<|dh 0 rfl rfl (fun w hS => Qh3 Qdz rfl)<|dm 0 rfl rfl<|dm 0 rfl rfl<|qd 2 rfl<|qm rfl<|qm rfl<|Qa<|Qe<|Xi ?_
 have X3 := (((Gr.refl w).trans G1).trans G2)
 refine Zq (α := Nat × Int × Int × Int × Int) (rg 6 5 ++ rg 20 17) (fun ⟨n1, a7, a8, a9, f⟩ => [(6, .int .i64 a7), (7, .int .i64 a8), (8, .int .i64 a9), (9, .int .i64 f)]) (fun ⟨n1, a7, a8, a9, f⟩ wr => (Qr (Qbl p1) n1 (a7, a8, a9, f) = some r) ∧ Kz [] w2 wr) (fun ⟨n1, a7, a8, a9, f⟩ => n1) ⟨Xb, Qi (un p1), Qi (un x2), 0, 1⟩ ?_ ?_ ?_
 · exact Qf
 · exact ⟨hm, Kz.refl _ _⟩
 clear hm; rintro ⟨n1, a7, a8, a9, f⟩ w3 ⟨hm, K3⟩
 have hb := Zx hm; clear hm; obtain ⟨n1, rfl, hm⟩ := hb
 generalize h : Qr (Qbl p1) n1 = p at hm
 unfold Qbl at hm
 try dsimp only at hm
 refine Qe<|qs 2 rfl<|qm rfl<|qv rfl (Jw (a := a8) (b := 0) rfl rfl)<|Qa<|Xj rfl (fun c2 => ?_) (fun c2 => ?_)
 · replace hm := iT c2 hm
   refine qu<|Xi<|qs 4 rfl<|qm rfl<|qm rfl ?_
   obtain ⟨g, i, hm⟩ := Qc hm
   refine qv rfl (Tq (a := a7) (b := a8) rfl rfl i)<|qm rfl<|qd 8 rfl<|qm rfl<|qm rfl<|qm rfl<|qm rfl<|qv rfl (Wa (k := .i64) (a := g) (b := a8) rfl rfl)<|qv rfl (Vn (k := .i64) (a := a7) (b := Qi (g * a8)) rfl rfl)<|qm rfl<|qm rfl<|Qa<|qg 8 rfl<|qm rfl<|qm rfl<|qm rfl<|qm rfl<|qv rfl (Wa (k := .i64) (a := g) (b := f) rfl rfl)<|qv rfl (Vn (k := .i64) (a := a9) (b := Qi (g * f)) rfl rfl)<|qm rfl<|qm rfl<|Qh<|Xy ?_
   have K_5 : Kz [] w2 w3 := K3
   subst h
   exact ⟨rfl, ⟨n1, a8, Qi (a7 - (Qi (g * a8))), f, Qi (a9 - (Qi (g * f)))⟩, Qf, ⟨hm, K_5⟩, Nat.lt_succ_self _⟩
 replace hm := iF c2 hm
 refine Zl<|Xk<|Xk<|Zk<|Xl<|Qe<|qs 2 rfl<|qm rfl<|qv rfl (Jw (a := a7) (b := 1) rfl rfl)<|Qa<|Xj rfl (fun c3 => ?_) (fun c3 => ?_)
 · replace hm := iT c3 hm
   refine qs 2 rfl<|qm rfl<|qm rfl<|qb ?_
   have X6 := (X3.kz K3)
   cases hm
   refine ⟨_, _, rfl, Zb rfl (Qg rfl) (Qg rfl), ?_⟩
   exact ⟨rfl, X6⟩
 replace hm := iF c3 hm
 refine qu<|qs 13 rfl<|qm rfl<|qm rfl<|qv rfl (Qh3 Qdz rfl) ?_
 obtain ⟨j, l, hm⟩ := Qc hm
 refine qv rfl (Hm (a := a9) (b := Qi (un p1)) rfl rfl l)<|qm rfl<|qv rfl (Qh3 Qdz rfl)<|qv rfl (Zg (k := .i64) (a := j) (b := Qi (un p1)) rfl rfl)<|qm rfl<|qv rfl (Qh3 Qdz rfl) ?_
 obtain ⟨s, m, hm⟩ := Qc hm
 refine qv rfl (Hm (a := Qi (j + (Qi (un p1)))) (b := Qi (un p1)) rfl rfl m)<|qv rfl (Yb Qxe rfl)<|qm rfl<|qm rfl<|Qa<|Qo ?_
 have X7 := (X3.kz K3)
 cases hm
 refine ⟨_, _, rfl, Zb rfl (Qg rfl) (Qg rfl), ?_⟩
 exact ⟨rfl, X7⟩
theorem Xdx {p0 p1 p2 r} (hm : Qfb p0 p1 p2 = some r) {w : World} :
    Calls Tryz.prog 220 [wv p0, wv p1, wv p2].toArray w fun e w' => ∃ v, e = .returned v ∧ (v = wv r ∧ Gr w w') := by
 unfold Qfb at hm
 refine Xe 20 Tryz.func220 rfl rfl rfl<|qs 1 rfl<|qm rfl<|qd 8 rfl<|qm rfl<|qm rfl ?_
 obtain ⟨x1, a, hm⟩ := Qc hm
 refine qe rfl (eC Qzh rfl (Xcy a)) ?_
 rintro _ w1 ⟨rfl, G1⟩
 refine qm rfl<|qm rfl<|qm rfl<|qm rfl<|qm rfl<|qd 6 rfl<|qm rfl<|qm rfl<|qm rfl<|qe rfl (Ve [p1, x1.1] Kr Qde rfl rfl (Kx rfl) rfl rfl rfl) ?_
 rintro f w2 ⟨g, d, b, G2⟩
 obtain ⟨x2, c, hm⟩ := Qc hm
 refine qe rfl (eC Qe5 rfl (Qfc c (Qn.rd b))) ?_
 rintro _ w3 ⟨rfl, G3⟩
 refine qm rfl<|Qa<|Qo ?_
 have X5 := ((((Gr.refl w).trans G1).trans G2).trans G3)
 cases hm
 refine ⟨_, _, rfl, Qt rfl (Qg rfl), ?_⟩
 exact ⟨rfl, X5⟩
theorem Qtb {p0 r} (hm : Qj1 p0 = some r) {w : World} :
    Calls Tryz.prog 221 [wv p0].toArray w fun e w' => ∃ v, e = .returned v ∧ (v = kv r ∧ Gr w w') := by
 unfold Qj1 at hm
 refine Xe 6 Tryz.func221 rfl rfl rfl<|qs 1 rfl<|qe rfl (Xh (cs := kb k0) Zh rfl) ?_
 rintro _ w1 ⟨b1, rfl, c, a, G1⟩
 refine qd 4 rfl<|qv rfl (Vz Vt)<|qm rfl<|qe rfl (eC Ty rfl (Tx k0 (Xf 42#8) (Vy _) (Vx _) p0 _)) ?_
 rintro _ w2 ⟨rfl, G2⟩
 have B4 := (a.gr G2)
 refine qe rfl (Qx Ql rfl rfl rfl B4 rfl rfl) ?_
 rintro _ w3 ⟨b, M3⟩
 refine Qa<|Qo ?_
 have X6 := ((((Gr.refl w).trans G1).trans G2).md M3)
 cases hm
 refine ⟨_, _, rfl, Qt rfl (Xr Ql rfl b rfl), ?_⟩
 exact ⟨rfl, X6⟩
theorem Xdu {p0 p1 p2 vp1_1 zp1_1 gp1_1 op1_1 vp2_0 zp2_0 gp2_0 op2_0 vp2_2 zp2_2 gp2_2 op2_2 r} (hm : Aj p0 p1 p2 = some r) {w : World} (x : Rd w zp1_1 gp1_1 op1_1 18 vp1_1 (p1.Labels.map Xn.cs)) (y : Rd w zp2_0 gp2_0 op2_0 18 vp2_0 (p2.Items.map Zd.cs)) (z : Rd w zp2_2 gp2_2 op2_2 2 vp2_2 (p2.Points.map Qu.cs)) :
    Calls Tryz.prog 134 [.agg (Qs.cs p0).toArray, .agg (Qq.cs p1 vp1_1).toArray, .agg (Zi.cs p2 vp2_0 vp2_2).toArray].toArray w fun e w' => ∃ v, e = .returned v ∧ (v = .tuple [kv r.1, .int .i64 r.2].toArray ∧ Gr w w') := by
 have bJ := x.lth
 have bK := y.lth
 have bL := z.lth
 unfold Aj at hm
 refine Xe 111 Tryz.func134 rfl rfl rfl<|qs 5 rfl<|qe rfl (Qy (cs := Qs.cs p0) rfl rfl) ?_
 rintro _ w1 ⟨b1, rfl, cH, al, G1⟩
 have da := al.lt
 refine qe rfl (Qy (cs := Qq.cs p1 vp1_1) rfl rfl) ?_
 rintro _ w2 ⟨b2, rfl, cI, am, G2⟩
 have db := am.lt
 refine qe rfl (Qy (cs := Zi.cs p2 vp2_0 vp2_2) rfl rfl) ?_
 rintro _ w3 ⟨b3, rfl, cJ, an, G3⟩
 have dc := an.lt
 refine qe rfl (Xh (cs := kb k0) Zh rfl) ?_
 rintro _ w4 ⟨b4, rfl, cK, t, G4⟩
 have cL := t.lt
 refine qm rfl<|Qa<|Qe<|qs 3 rfl ?_
 have Y1 := Gr.trans (Gr.trans G2 G3) G4
 have ao := (al.gr Y1)
 refine qv rfl (Qp Zw rfl ao rfl) ?_
 obtain ⟨x1, bM, hm⟩ := Qc hm
 refine qe rfl (eC Qlr rfl (Qnb bM)) ?_
 rintro _ w5 ⟨rfl, G5⟩
 have dd := G5.size
 refine qv rfl (Jb rfl)<|Qa<|Xj rfl (fun c1 => ?_) (fun c1 => ?_)
 · replace hm := Xx c1 hm
   refine qs 3 rfl<|qv rfl (Vz Vt) ?_
   have bN := (t.gr G5)
   refine qe rfl (Qx Ql rfl rfl rfl bN rfl rfl) ?_
   rintro _ w6 ⟨bO, M6⟩
   refine qm rfl<|qb ?_
   have Y2 := Gr.trans (Gr.trans G1 Y1) G5
   have bP := (((Gr.refl w).trans Y2).md M6)
   cases hm
   refine ⟨_, _, rfl, Zb rfl (Xr Ql rfl bO rfl) (Qg rfl), ?_⟩
   exact ⟨rfl, bP⟩
 replace hm := Xw c1 hm
 refine qu<|Qe<|qs 5 rfl ?_
 have ap := (ao.gr G5)
 refine qv rfl (Qp Zw rfl ap rfl) ?_
 have Y3 := Gr.trans (Gr.trans G3 G4) G5
 have aq := (am.gr Y3)
 refine qv rfl (Qp Jc rfl aq rfl) ?_
 have Y4 := Gr.trans G4 G5
 have ar := (an.gr Y4)
 refine qv rfl (Qp Gn rfl ar rfl) ?_
 have Y5 := Gr.trans (Gr.trans G1 Y1) G5
 have au := (x.gr Y5)
 have av := (y.gr Y5)
 have aw := (z.gr Y5)
 obtain ⟨x2, bQ, hm⟩ := Qc hm
 refine qe rfl (eC Qyr rfl (Xdz bQ au av aw)) ?_
 rintro _ w7 ⟨rfl, G7⟩
 have de := G7.size
 refine qv rfl (Jb rfl)<|Qa<|Xj rfl (fun c2 => ?_) (fun c2 => ?_)
 · replace hm := Xx c2 hm
   refine qs 3 rfl<|qv rfl (Vz Vt) ?_
   have Y6 := Gr.trans G5 G7
   have bR := (t.gr Y6)
   refine qe rfl (Qx Ql rfl rfl rfl bR rfl rfl) ?_
   rintro _ w8 ⟨bS, M8⟩
   refine qm rfl<|qb ?_
   have bT := ((((Gr.refl w).trans Y5).trans G7).md M8)
   cases hm
   refine ⟨_, _, rfl, Zb rfl (Xr Ql rfl bS rfl) (Qg rfl), ?_⟩
   exact ⟨rfl, bT⟩
 replace hm := Xw c2 hm
 refine qu<|Qe<|dw [([])] [] (.leaf [(0,10),(1,10),(2,10),(3,10),(4,10),(5,10),(6,10),(7,10),(8,10),(12,10),(13,10),(9,0),(10,10),(11,0),(14,0),(15,10)]) ?_
 intro w9 G9 df
 refine Zj<|dh 0 rfl rfl (fun w hS => Qb Na rfl)<|dh 0 rfl rfl (fun w hS => Qb Ha rfl) ?_
 have Y7 := Gr.trans G7 G9
 have ax := (aq.gr Y7)
 refine dh 0 rfl rfl (fun w hS => Qd (v := wv p1.Share.X) Xm rfl (Bx.kp ax hS) rfl) ?_
 have ay := (ap.gr Y7)
 refine dh 0 rfl rfl (fun w hS => Qp Zw rfl (Bx.kp ay hS) rfl)<|dh 0 rfl rfl (fun w hS => Qb Gy rfl) ?_
 have F := (ar.gr Y7)
 refine dh 0 rfl rfl (fun w hS => Qd (v := wv p2.Base) Xm rfl (Bx.kp F hS) rfl)<|dh 0 rfl rfl (fun w hS => Qb Na rfl)<|dh 0 rfl rfl (fun w hS => Qb Gz rfl)<|dh 0 rfl rfl (fun w hS => Qd (v := wv p1.Share.Y) Xm rfl (Bx.kp ax hS) rfl)<|dh 0 rfl rfl (fun w hS => Qb Yw rfl)<|dh 0 rfl rfl (fun w hS => Qd (v := vp2_2) Yx rfl (Bx.kp F hS) rfl) ?_
 obtain ⟨x3, bU, hm⟩ := Qc hm
 refine qz [] rfl (eC Qqf rfl (Qtc bU)) ⟨fun _ => Qj, trivial⟩ ?_
 rintro _ dg ⟨rfl, A⟩
 have di := A.size
 refine kG A ?_
 have az := ((Kp.refl ([]) w9).gr A)
 refine qh 0 rfl rfl az (fun w hS => Zv (cs := Qu.cs (Qu.mk p1.Share.X x3)) Qhk rfl rfl)<|qz [] rfl (Ve [(Qu.mk p1.Share.X x3)] Qu.cs Qkv rfl rfl (Kx rfl) rfl rfl rfl) ⟨fun _ => Qj, trivial⟩ ?_
 rintro cM dj ⟨d, bV, aA, B⟩
 have dk := B.size
 refine kG B ?_
 have Y8 := Gr.trans (Gr.trans Y7 A) B
 have aB := (aw.gr Y8)
 obtain ⟨l4, bW, hm⟩ := Qc hm
 refine qz [(1, d)] rfl (Vl (l := [(Qu.mk p1.Share.X x3)]) (m := p2.Points) (c := Qu.cs) Qhg rfl rfl aA aB bW (by decide)) ⟨fun _ => (Qk ((.inr Qj) : 1 = 0 ∨ w9.heap.size ≤ d)), trivial⟩ ?_
 rintro cN dl ⟨cO, cP, N, f, aC, cQ⟩
 have dp := f.size
 refine ⟨Kz.ofKa f, ?_⟩
 have bX := ((az.gr B).ka f (Qk ((.inr Qj) : 1 = 0 ∨ w9.heap.size ≤ d)))
 refine dn 0 rfl rfl bX<|Qa<|Qe<|qs 3 rfl<|qm rfl ?_
 obtain ⟨x5, bY, hm⟩ := Qc hm
 refine qe rfl (eC Qqg rfl (Qta bY (Qn.rd N))) ?_
 rintro _ aD ⟨rfl, g⟩
 have dq := g.size
 refine qv rfl (Jb rfl)<|Qa<|Xj rfl (fun c3 => ?_) (fun c3 => ?_)
 · replace hm := Xx c3 hm
   refine qs 3 rfl<|qv rfl (Vz Vt) ?_
   have Y9 := Gr.trans G5 Y8
   have bZ := (((t.gr Y9).ka f (Qk ((.inr Qj) : 1 = 0 ∨ d ≠ b4))).gr g)
   refine qe rfl (Qx Ql rfl rfl rfl bZ rfl rfl) ?_
   rintro _ dr ⟨aE, b0⟩
   refine qm rfl<|qb ?_
   have b5 := ((((((Gr.refl w).trans Y5).trans Y8).ka f (Qk ((.inr Qj) : 1 = 0 ∨ w.heap.size ≤ d))).trans g).md b0)
   cases hm
   refine ⟨_, _, rfl, Zb rfl (Xr Ql rfl aE rfl) (Qg rfl), ?_⟩
   exact ⟨rfl, b5⟩
 replace hm := Xw c3 hm
 refine qu<|qs 5 rfl<|qv rfl (Qb Wz rfl)<|qv rfl (Qb Hu rfl) ?_
 have V := Gr.trans A B
 have aF := (((ay.gr V).ka f (Qk ((.inr Qj) : 1 = 0 ∨ d ≠ b1))).gr g)
 refine qv rfl (Qd (v := wv p0.Group.Q) Xm rfl aF rfl)<|qm rfl<|qm rfl<|Qa<|Qe<|qs 3 rfl<|qm rfl ?_
 have aG := (N.gr g)
 refine qv rfl (Zo (l := l4) (c := Qu.cs) Tryz.underlying34 rfl (Qn.rd aG))<|qm rfl<|Qa<|Xi ?_
 have b6 := (((((Gr.refl w).trans Y5).trans Y8).ka f (Qk ((.inr Qj) : 1 = 0 ∨ w.heap.size ≤ d))).trans g)
 have ds := (((au.gr Y8).ka f (Qk ((Jl (.inr (Qk bJ.o))) : zp1_1 = 0 ∨ 1 = 0 ∨ gp1_1 ≠ d))).gr g)
 have dt := (((av.gr Y8).ka f (Qk ((Jl (.inr (Qk bK.o))) : zp2_0 = 0 ∨ 1 = 0 ∨ gp2_0 ≠ d))).gr g)
 have du := ((aB.ka f (Qk ((Jl (.inr (Qk bL.o))) : zp2_2 = 0 ∨ 1 = 0 ∨ gp2_2 ≠ d))).gr g)
 refine Zq (α := Nat × BitVec 64 × Int) (rg 10 7 ++ rg 52 47) (fun ⟨n1, a8, a9⟩ => [(10, wv a8), (52, .int .i64 a9)]) (fun ⟨n1, a8, a9⟩ wr => (Qr (Cr p0 p2 l4) n1 (a8, a9) = some r) ∧ Kz [] aD wr) (fun ⟨n1, a8, a9⟩ => n1) ⟨Xb, 1#64, 0⟩ ?_ ?_ ?_
 · exact Qf
 · exact ⟨hm, Kz.refl _ _⟩
 clear hm; rintro ⟨n1, a8, a9⟩ aH ⟨hm, n⟩
 have dv := n.size
 have hb := Zx hm; clear hm; obtain ⟨n1, rfl, hm⟩ := hb
 generalize W : Qr (Cr p0 p2 l4) n1 = O at hm
 unfold Cr at hm
 try dsimp only at hm
 refine qs 1 rfl<|qv rfl (Zc (a := a9) (b := (l4.length : Int)) rfl rfl)<|Qa<|Qe<|Zu rfl (fun c4 => ?_) (fun c4 => ?_)
 · replace hm := iF c4 hm
   refine Zl<|Xk<|Xk<|Zk<|Xl ?_
   have aI := (b6.kz n)
   refine qj (β := W2 × Nat) ([17] ++ rg 99 5) (fun ⟨u, bq24⟩ => [(17, .pointer (some ⟨bq24, 0, none⟩))]) (fun ⟨u, bq24⟩ wr => (Qf8 p2 u = some r) ∧ Bx wr bq24 23 (kb u) ∧ aH.heap.size ≤ bq24 ∧ Kz [] aH wr) ?_ ?_
   · refine dw [([])] [] (.fork [(0,10),(2,10),(3,10)] (.fork [(1,0)] (.leaf [(4,0),(5,0),(6,0)]) (.leaf [(5,0),(4,0),(6,0)])) (.leaf [(5,0),(1,0),(4,0),(6,0)])) ?_
     intro dy G cR
     refine Pb<|dm 0 rfl rfl<|dh 0 rfl rfl (fun w hS => Qb Bw rfl) ?_
     have b7 := (((((F.gr V).ka f (Qk ((.inr Qj) : 1 = 0 ∨ d ≠ b3))).gr g).kz n).gr G)
     refine dh 0 rfl rfl (fun w hS => Zy (vs := kb p2.Box) Ql rfl (Bx.kp b7 hS) rfl rfl)<|Hz ?_ ?_
     · refine Pb ?_
       obtain ⟨H, aJ, hm⟩ := Qc hm
       refine qz [] rfl (eC Qqh rfl (Qtb aJ)) ⟨fun _ => Qj, trivial⟩ ?_
       rintro _ dz ⟨rfl, I⟩
       have dA := I.size
       refine kG I<|Hz ?_ ?_
       · refine Zj<|qz [] rfl (eC Qi3 rfl (Qi1 H p2.Box _)) ⟨fun _ => Qj, trivial⟩ ?_
         rintro _ dB ⟨rfl, Z⟩
         have dC := Z.size
         refine kG Z<|qz [] rfl (Xh (cs := kb k0) Zh rfl) ⟨fun _ => Qj, trivial⟩ ?_
         rintro _ dD ⟨aK, rfl, b8, aL, aM⟩
         refine kG aM<|qz [(1, aK)] rfl (Qx Ql rfl rfl rfl aL rfl rfl) ⟨fun _ => Qj, trivial⟩ ?_
         rintro _ dE ⟨aN, aO⟩
         refine kM aO<|Qh ?_
         exact ⟨rfl, ⟨Dc H p2.Box, aK⟩, Qf, hm, aN, (by omega), (((((Qz.gr G).gr I).gr Z).gr aM).md aO)⟩
       refine Zj<|qz [] rfl (Xh (cs := kb k0) Zh rfl) ⟨fun _ => Qj, trivial⟩ ?_
       rintro _ dF ⟨aP, rfl, b9, aQ, aR⟩
       refine kG aR<|qz [] rfl (eC Qi3 rfl (Qi1 H p2.Box _)) ⟨fun _ => Qj, trivial⟩ ?_
       rintro _ dG ⟨rfl, aa⟩
       refine kG aa ?_
       have aS := (aQ.gr aa)
       refine qz [(1, aP)] rfl (Qx Ql rfl rfl rfl aS rfl rfl) ⟨fun _ => Qj, trivial⟩ ?_
       rintro _ dH ⟨aT, aU⟩
       refine kM aU<|Qh ?_
       exact ⟨rfl, ⟨Dc H p2.Box, aP⟩, Qf, hm, aT, (by omega), (((((Qz.gr G).gr I).gr aR).gr aa).md aU)⟩
     refine Zj<|qz [] rfl (Xh (cs := kb k0) Zh rfl) ⟨fun _ => Qj, trivial⟩ ?_
     rintro _ dI ⟨aV, rfl, ca, aW, aX⟩
     refine kG aX ?_
     obtain ⟨aY, aZ, hm⟩ := Qc hm
     refine qz [] rfl (eC Qqh rfl (Qtb aZ)) ⟨fun _ => Qj, trivial⟩ ?_
     rintro _ dJ ⟨rfl, ab⟩
     refine kG ab<|qz [] rfl (eC Qi3 rfl (Qi1 aY p2.Box _)) ⟨fun _ => Qj, trivial⟩ ?_
     rintro _ dK ⟨rfl, ac⟩
     refine kG ac ?_
     have a0 := ((aW.gr ab).gr ac)
     refine qz [(1, aV)] rfl (Qx Ql rfl rfl rfl a0 rfl rfl) ⟨fun _ => Qj, trivial⟩ ?_
     rintro _ dL ⟨a1, a2⟩
     refine kM a2<|Qh ?_
     exact ⟨rfl, ⟨Dc aY p2.Box, aV⟩, Qf, hm, a1, (by omega), (((((Qz.gr G).gr aX).gr ab).gr ac).md a2)⟩
   clear hm; rintro ⟨u, bq24⟩ dM ⟨hm, J, bI, C⟩
   unfold Qf8 at hm
   refine Qe<|Qe<|dw [([])] [] (.leaf [(0,10),(2,10),(3,10),(1,0),(4,10)]) ?_
   intro cb K cS
   refine Zj ?_
   have a3 := (J.gr K)
   refine dh 0 rfl rfl (fun w hS => Qp Ql rfl (Bx.kp a3 hS) rfl)<|dh 0 rfl rfl (fun w hS => Qb Bz rfl) ?_
   have cc := ((((((F.gr V).ka f (Qk ((.inr Qj) : 1 = 0 ∨ d ≠ b3))).gr g).kz n).kz C).gr K)
   refine dh 0 rfl rfl (fun w hS => Zy (vs := kb p2.Check) Ql rfl (Bx.kp cc hS) rfl rfl)<|qz [] rfl (eC Ty rfl (Tx u (Xf 53#8) (Vy _) (Vx _) 0#64 _)) ⟨fun _ => Qj, trivial⟩ ?_
   rintro _ dN ⟨rfl, D⟩
   refine kG D ?_
   have cd := ((Kp.refl ([]) cb).gr D)
   refine qh 0 rfl rfl cd (fun w hS => Gk (cf := kb) (a := Jk u (Xf 53#8) 0#64) (b := p2.Check) Dw rfl rfl rfl rfl (fun h => Hq h))<|Qa<|Xj rfl (fun c7 => ?_) (fun c7 => ?_)
   · replace hm := iT c7 hm
     refine qs 3 rfl<|qv rfl (Vz Vt) ?_
     have ce := Gr.trans G5 Y8
     have a4 := Gr.trans K D
     have cg := ((((((t.gr ce).ka f (Qk ((.inr Qj) : 1 = 0 ∨ d ≠ b4))).gr g).kz n).kz C).gr a4)
     refine qe rfl (Qx Ql rfl rfl rfl cg rfl rfl) ?_
     rintro _ dO ⟨a5, ch⟩
     refine qm rfl<|qb ?_
     have ci := (((aI.kz C).trans a4).md ch)
     cases hm
     refine ⟨_, _, rfl, Zb rfl (Xr Ql rfl a5 rfl) (Qg rfl), ?_⟩
     exact ⟨rfl, ci⟩
   replace hm := iF c7 hm
   refine qu<|qs 3 rfl ?_
   have cj := (a3.gr D)
   refine qv rfl (Qp Ql rfl cj rfl) ?_
   have ck := Gr.trans G5 Y8
   have a6 := Gr.trans K D
   have cl := ((((((t.gr ck).ka f (Qk ((.inr Qj) : 1 = 0 ∨ d ≠ b4))).gr g).kz n).kz C).gr a6)
   refine qe rfl (Qx Ql rfl rfl rfl cl rfl rfl) ?_
   rintro _ dP ⟨a7, cm⟩
   refine qm rfl<|Qa<|Qo ?_
   have cn := (((aI.kz C).trans a6).md cm)
   cases hm
   refine ⟨_, _, rfl, Zb rfl (Xr Ql rfl a7 rfl) (Qg rfl), ?_⟩
   exact ⟨rfl, cn⟩
 replace hm := iT c4 hm
 refine qu<|Qe<|Xi<|qs 6 rfl<|qm rfl ?_
 obtain ⟨L, R, hm⟩ := Qc hm
 have ad := (aG.kz n)
 refine qv rfl (Jm (i := a9) Tryz.underlying34 (Vk).siz rfl (Qn.rd ad) rfl R)<|qv rfl (Hc Vk rfl (Qn.rd ad) R (by first | rfl | omega))<|qe rfl (Xh (cs := Qu.cs (Qu.mk 0#64 0#64)) Ug rfl) ?_
 rintro _ dQ ⟨dR, rfl, co, S, ae⟩
 have cT := S.lt
 refine qm rfl<|qe rfl (Qx Vk rfl rfl rfl S rfl rfl) ?_
 rintro _ af ⟨T, M⟩
 have dS := M.size
 refine qd 2 rfl<|qm rfl<|qm rfl<|Qa<|Qe<|qs 3 rfl<|qm rfl ?_
 have ba := ((ad.gr ae).md M (Xd aC))
 refine qv rfl (Zo (l := l4) (c := Qu.cs) Tryz.underlying34 rfl (Qn.rd ba))<|qm rfl<|Qa<|Xi ?_
 refine Zq (α := Nat × BitVec 64 × BitVec 64 × Int) ([13, 14, 15, 16] ++ rg 59 25) (fun ⟨n2, q, s, j⟩ => [(13, wv q), (14, wv s), (59, .int .i64 j)]) (fun ⟨n2, q, s, j⟩ wr => (Qr (Ak p0 l4 a8 a9 O L) n2 (q, s, j) = some r) ∧ Kz [] af wr) (fun ⟨n2, q, s, j⟩ => n2) ⟨Xb, 1#64, 1#64, 0⟩ ?_ ?_ ?_
 · exact Qf
 · exact ⟨hm, Kz.refl _ _⟩
 clear hm; rintro ⟨n2, q, s, j⟩ dT ⟨hm, p⟩
 have dU := p.size
 have hb := Zx hm; clear hm; obtain ⟨n2, rfl, hm⟩ := hb
 generalize E : Qr (Ak p0 l4 a8 a9 O L) n2 = cU at hm
 unfold Ak at hm
 try dsimp only at hm
 refine qs 1 rfl<|qv rfl (Zc (a := j) (b := (l4.length : Int)) rfl rfl)<|Qa<|Qe<|Zu rfl (fun c5 => ?_) (fun c5 => ?_)
 · replace hm := iF c5 hm
   refine Zl<|Xk<|Xk<|Zk<|Xl<|dw [([])] [] (.leaf [(0,10),(1,10),(2,10),(3,10),(4,10),(5,10),(6,10),(7,10),(8,10),(9,10),(10,0),(11,0),(12,0),(13,0),(14,10)]) ?_
   intro cp ag cV
   refine Zj<|dh 0 rfl rfl (fun w hS => Qb Wz rfl)<|dh 0 rfl rfl (fun w hS => Qb Dh rfl) ?_
   have bb := (((((aF.kz n).gr ae).md M).kz p).gr ag)
   refine dh 0 rfl rfl (fun w hS => Qd (v := wv p0.Group.P) Xm rfl (Bx.kp bb hS) rfl)<|dm 0 rfl rfl<|dh 0 rfl rfl (fun w hS => Qp Zw rfl (Bx.kp bb hS) rfl)<|dh 0 rfl rfl (fun w hS => Qb Gz rfl) ?_
   have cq := ((T.kz p).gr ag)
   refine dh 0 rfl rfl (fun w hS => Qd (v := wv L.Y) Xm rfl (Bx.kp cq hS) rfl)<|dm 0 rfl rfl<|dm 0 rfl rfl<|dm 0 rfl rfl ?_
   obtain ⟨dV, bd, hm⟩ := Qc hm
   refine qz [] rfl (eC Qyt rfl (Xdx bd)) ⟨fun _ => Qj, trivial⟩ ?_
   rintro _ dW ⟨rfl, bf⟩
   refine kG bf ?_
   obtain ⟨cr, bg, hm⟩ := Qc hm
   refine qz [] rfl (eC Qqf rfl (Qtc bg)) ⟨fun _ => Qj, trivial⟩ ?_
   rintro _ dX ⟨rfl, bh⟩
   refine kG bh<|qz [] rfl (Ve [a8, cr] Kr Qde rfl rfl (Kx rfl) rfl rfl rfl) ⟨fun _ => Qj, trivial⟩ ?_
   rintro cW dY ⟨cX, ct, bi, bj⟩
   refine kG bj ?_
   obtain ⟨cu, bk, hm⟩ := Qc hm
   refine qz [] rfl (eC Qe5 rfl (Qfc bk (Qn.rd bi))) ⟨fun _ => Qj, trivial⟩ ?_
   rintro _ cv ⟨rfl, bl⟩
   refine kG bl ?_
   have bm := Gr.trans (Gr.trans (Gr.trans bf bh) bj) bl
   have cw := ((Kp.refl ([]) cp).gr bm)
   refine dn 0 rfl rfl cw<|Qh<|Xy<|Xl<|qg 2 rfl<|qv rfl (Zg (k := .i64) (a := a9) (b := 1) rfl rfl)<|qm rfl<|Qh ?_
   have K_82 : Kz [] aD cv := (((((n.gr ae).md M).kz p).gr ag).gr bm)
   subst W
   exact ⟨rfl, ⟨n1, cu, Qi (a9 + 1)⟩, Qf, ⟨hm, K_82⟩, Nat.lt_succ_self _⟩
 replace hm := iT c5 hm
 refine qu<|Qe<|Xi<|qs 6 rfl<|qm rfl ?_
 obtain ⟨ah, U, hm⟩ := Qc hm
 have bo := (ba.kz p)
 refine qv rfl (Jm (i := j) Tryz.underlying34 (Vk).siz rfl (Qn.rd bo) rfl U)<|qv rfl (Hc Vk rfl (Qn.rd bo) U (by first | rfl | omega))<|qe rfl (Xh (cs := Qu.cs (Qu.mk 0#64 0#64)) Ug rfl) ?_
 rintro _ dZ ⟨d0, rfl, cx, bp, ai⟩
 refine qm rfl<|qe rfl (Qx Vk rfl rfl rfl bp rfl rfl) ?_
 rintro _ cy ⟨bq, aj⟩
 refine qd 3 rfl<|qm rfl<|qm rfl<|qv rfl (Jw (a := j) (b := a9) rfl rfl)<|Qa<|Zu rfl (fun c6 => ?_) (fun c6 => ?_)
 · replace hm := iF c6 hm
   refine Vi<|Xy<|Xl<|qg 2 rfl<|qv rfl (Zg (k := .i64) (a := j) (b := 1) rfl rfl)<|qm rfl<|Qh ?_
   have K_73 : Kz [] af cy := ((p.gr ai).md aj)
   subst E
   exact ⟨rfl, ⟨n2, q, s, Qi (j + 1)⟩, Qf, ⟨hm, K_73⟩, Nat.lt_succ_self _⟩
 replace hm := iT c6 hm
 refine dw [([])] [] (.leaf [(0,10),(1,10),(2,10),(3,10),(6,10),(7,10),(8,10),(9,10),(10,10),(11,10),(12,10),(4,0),(5,0),(13,0),(14,0),(15,0),(16,10),(17,10)]) ?_
 intro cz ak cY
 refine Zj<|dm 0 rfl rfl<|dm 0 rfl rfl<|dh 0 rfl rfl (fun w hS => Qb Ha rfl) ?_
 have br := (bq.gr ak)
 refine dh 0 rfl rfl (fun w hS => Qd (v := wv ah.X) Xm rfl (Bx.kp br hS) rfl)<|dm 0 rfl rfl<|dm 0 rfl rfl<|dm 0 rfl rfl<|dh 0 rfl rfl (fun w hS => Qb Ha rfl)<|dh 0 rfl rfl (fun w hS => Qd (v := wv ah.X) Xm rfl (Bx.kp br hS) rfl)<|dh 0 rfl rfl (fun w hS => Qb Ha rfl) ?_
 have cA := ((((T.kz p).gr ai).md aj).gr ak)
 refine dh 0 rfl rfl (fun w hS => Qd (v := wv L.X) Xm rfl (Bx.kp cA hS) rfl)<|qz [] rfl (Ve [q, ah.X] Kr Qde rfl rfl (Kx rfl) rfl rfl rfl) ⟨fun _ => Qj, trivial⟩ ?_
 rintro cZ d1 ⟨c0, cB, bs, bu⟩
 refine kG bu ?_
 obtain ⟨cC, bx, hm⟩ := Qc hm
 refine qz [] rfl (eC Qe5 rfl (Qfc bx (Qn.rd bs))) ⟨fun _ => Qj, trivial⟩ ?_
 rintro _ d2 ⟨rfl, bz⟩
 refine kG bz ?_
 obtain ⟨cD, bA, hm⟩ := Qc hm
 refine qz [] rfl (eC Qys rfl (Xdy bA)) ⟨fun _ => Qj, trivial⟩ ?_
 rintro _ d3 ⟨rfl, bB⟩
 refine kG bB<|qz [] rfl (Ve [s, cD] Kr Qde rfl rfl (Kx rfl) rfl rfl rfl) ⟨fun _ => Qj, trivial⟩ ?_
 rintro c8 d4 ⟨c9, cE, bC, bD⟩
 refine kG bD ?_
 obtain ⟨cF, bE, hm⟩ := Qc hm
 refine qz [] rfl (eC Qe5 rfl (Qfc bE (Qn.rd bC))) ⟨fun _ => Qj, trivial⟩ ?_
 rintro _ cG ⟨rfl, bF⟩
 refine kG bF ?_
 have bG := Gr.trans (Gr.trans (Gr.trans (Gr.trans bu bz) bB) bD) bF
 have bH := ((Kp.refl ([]) cz).gr bG)
 refine dn 0 rfl rfl bH<|dn 0 rfl rfl bH<|Qh<|Xy<|Xl<|qg 2 rfl<|qv rfl (Zg (k := .i64) (a := j) (b := 1) rfl rfl)<|qm rfl<|Qh ?_
 have K_72 : Kz [] af cG := ((((p.gr ai).md aj).gr ak).gr bG)
 subst E
 exact ⟨rfl, ⟨n2, cC, cF, Qi (j + 1)⟩, Qf, ⟨hm, K_72⟩, Nat.lt_succ_self _⟩
theorem Xf1 {p0 p1 vp1_0 zp1_0 gp1_0 op1_0 vp1_2 zp1_2 gp1_2 op1_2 r} (hm : Qg8 p0 p1 = some r) {w : World} (f : Rd w zp1_0 gp1_0 op1_0 18 vp1_0 (p1.Items.map Zd.cs)) (g : Rd w zp1_2 gp1_2 op1_2 2 vp1_2 (p1.Points.map Qu.cs)) :
    Calls Tryz.prog 294 [.agg (Qs.cs p0).toArray, .agg (Zi.cs p1 vp1_0 vp1_2).toArray].toArray w fun e w' => ∃ v, e = .returned v ∧ (v = .bool r ∧ Gr w w') := by
 have aa := f.lth
 have G := g.lth
 unfold Qg8 at hm
 refine Xe 83 Tryz.func294 rfl rfl rfl<|qs 3 rfl<|qe rfl (Qy (cs := Qs.cs p0) rfl rfl) ?_
 rintro _ w1 ⟨b1, rfl, U, o, G1⟩
 have ab := o.lt
 refine qe rfl (Qy (cs := Zi.cs p1 vp1_0 vp1_2) rfl rfl) ?_
 rintro _ w2 ⟨b2, rfl, V, h, G2⟩
 have ac := h.lt
 refine qm rfl<|Qa<|Qe ?_
 have Y1 := Gr.trans G1 G2
 have X7 := ((Gr.refl w).trans Y1)
 refine qj (β := Bool) (rg 8 25) (fun a1 => [(32, .bool a1)]) (fun a1 wr => (Im p0 p1 a1 = some r) ∧ Kz [] w2 wr) ?_ ?_
 · refine qg 25 rfl<|qv rfl (Qb Wg rfl)<|qv rfl (Qd (v := vp1_0) Wh rfl h rfl) ?_
   have H := (f.gr Y1)
   refine qv rfl (Zo (l := p1.Items) (c := Zd.cs) Tryz.underlying33 rfl H)<|qv rfl (Jw (a := (p1.Items.length : Int)) (b := 0) rfl rfl)<|qp rfl (Qm rfl) (fun c9 => ?_) (fun c9 => ?_)
   · replace hm := iT c9 hm
     refine qk rfl<|qk rfl<|qk rfl<|qm rfl<|qm rfl<|qk rfl<|qk rfl<|qk rfl<|qk rfl<|qk rfl<|qk rfl<|qm rfl<|qm rfl<|qk rfl<|qk rfl<|qk rfl<|qk rfl<|qk rfl<|qk rfl<|qm rfl<|Qh ?_
     exact ⟨rfl, true, Qf, hm, Qz⟩
   replace hm := iF c9 hm
   refine qv rfl (Qb Gy rfl)<|qv rfl (Qd (v := wv p1.Base) Xm rfl h rfl)<|qv rfl (Nr (c := p1.Base) (d := 1#64) rfl rfl)<|qm rfl<|qp rfl (Qm rfl) (fun p => ?_) (fun p => ?_)
   · replace hm := iT p hm
     refine qk rfl<|qk rfl<|qk rfl<|qk rfl<|qk rfl<|qk rfl<|qm rfl<|qm rfl<|qk rfl<|qk rfl<|qk rfl<|qk rfl<|qk rfl<|qk rfl<|qm rfl<|Qh ?_
     exact ⟨rfl, true, Qf, hm, Qz⟩
   replace hm := iF p hm
   refine qv rfl (Qb Gy rfl)<|qv rfl (Qd (v := wv p1.Base) Xm rfl h rfl)<|qv rfl (Qb Wz rfl)<|qv rfl (Qb Dh rfl) ?_
   have z := (o.gr G2)
   refine qv rfl (Qd (v := wv p0.Group.P) Xm rfl z rfl)<|qv rfl (Np (c := p1.Base) (d := p0.Group.P) rfl rfl)<|qm rfl<|qp rfl (Qm rfl) (fun s => ?_) (fun s => ?_)
   · replace hm := iT s hm
     refine qk rfl<|qk rfl<|qk rfl<|qk rfl<|qk rfl<|qk rfl<|qm rfl<|Qh ?_
     exact ⟨rfl, true, Qf, hm, Qz⟩
   replace hm := iF s hm
   refine qv rfl (Qb Yw rfl)<|qv rfl (Qd (v := vp1_2) Yx rfl h rfl) ?_
   have I := (g.gr Y1)
   refine qv rfl (Zo (l := p1.Points) (c := Qu.cs) Tryz.underlying34 rfl I)<|qv rfl (Qb La rfl)<|qv rfl (Qd (v := .int .i64 p0.Degree) Qv rfl z rfl)<|qv rfl (Jw (a := (p1.Points.length : Int)) (b := p0.Degree) rfl rfl)<|qm rfl<|Qh ?_
   exact ⟨rfl, (decide ((p1.Points.length : Int) ≠ p0.Degree)), Qf, hm, Qz⟩
 clear hm; rintro a1 w3 ⟨hm, K3⟩
 have z8 := K3.size
 unfold Im at hm
 refine Xj rfl (fun c1 => ?_) (fun c1 => ?_)
 · replace hm := Xx c1 hm
   refine qs 1 rfl<|qm rfl<|qb ?_
   have X9 := (X7.kz K3)
   cases hm
   refine ⟨_, _, rfl, Qt rfl (Qg rfl), ?_⟩
   exact ⟨rfl, X9⟩
 replace hm := Xw c1 hm
 refine qu<|Qe<|qs 1 rfl<|qm rfl<|Qa<|Xi ?_
 have A := (X7.kz K3)
 have ad := ((f.gr Y1).kz K3)
 have J := ((g.gr Y1).kz K3)
 refine Zq (α := Nat × Int) ([4, 5, 6, 7] ++ rg 33 50) (fun ⟨n2, a3⟩ => [(4, .bool false), (5, .int .i64 a3)]) (fun ⟨n2, a3⟩ wr => (Qr (Mh p0 p1) n2 a3 = some r) ∧ Kz [] w3 wr) (fun ⟨n2, a3⟩ => n2) ⟨Xb, 0⟩ ?_ ?_ ?_
 · exact Qf
 · exact ⟨hm, Kz.refl _ _⟩
 clear hm; rintro ⟨n2, a3⟩ w4 ⟨hm, K4⟩
 have ae := K4.size
 have hb := Zx hm; clear hm; obtain ⟨n2, rfl, hm⟩ := hb
 generalize t : Qr (Mh p0 p1) n2 = j at hm
 unfold Mh at hm
 try dsimp only at hm
 refine Qe<|qs 5 rfl<|qm rfl<|qv rfl (Qb Yw rfl) ?_
 have x := ((h.kz K3).kz K4)
 refine qv rfl (Qd (v := vp1_2) Yx rfl x rfl) ?_
 have n := (J.kz K4)
 refine qv rfl (Zo (l := p1.Points) (c := Qu.cs) Tryz.underlying34 rfl n)<|qv rfl (Zc (a := a3) (b := (p1.Points.length : Int)) rfl rfl)<|Qa<|Zu rfl (fun c2 => ?_) (fun c2 => ?_)
 · replace hm := iF c2 hm
   refine Zl<|Xk<|Xk<|Zk<|Xl<|qs 1 rfl<|qm rfl<|Qa<|Qo ?_
   have K := (A.kz K4)
   cases hm
   refine ⟨_, _, rfl, Qt rfl (Qg rfl), ?_⟩
   exact ⟨rfl, K⟩
 replace hm := iT c2 hm
 refine qu<|Qe<|Xi<|qs 7 rfl<|qv rfl (Qb Yw rfl)<|qv rfl (Qd (v := vp1_2) Yx rfl x rfl)<|qm rfl ?_
 obtain ⟨y4, B, hm⟩ := Qc hm
 refine qv rfl (Jm (i := a3) Tryz.underlying34 (Vk).siz rfl n rfl B)<|qv rfl (Hc Vk rfl n B (by first | rfl | omega))<|qe rfl (Xh (cs := Qu.cs (Qu.mk 0#64 0#64)) Ug rfl) ?_
 rintro _ w5 ⟨b5, rfl, W, L, G5⟩
 refine qe rfl (Qx Vk rfl rfl rfl L rfl rfl) ?_
 rintro _ w6 ⟨m, M6⟩
 refine Qa<|Qe ?_
 have C := (((A.kz K4).trans G5).md M6)
 refine qj (β := Bool) (rg 45 24) (fun a5 => [(68, .bool a5)]) (fun a5 wr => (Io p1 a3 j y4 a5 = some r) ∧ Kz [] w6 wr) ?_ ?_
 · refine qg 24 rfl<|qv rfl (Qb Ha rfl)<|qv rfl (Qd (v := wv y4.X) Xm rfl m rfl)<|qv rfl (Nr (c := y4.X) (d := 1#64) rfl rfl)<|qp rfl (Qm rfl) (fun c6 => ?_) (fun c6 => ?_)
   · replace hm := iT c6 hm
     refine qk rfl<|qk rfl<|qk rfl<|qk rfl<|qk rfl<|qk rfl<|qm rfl<|qm rfl<|qk rfl<|qk rfl<|qk rfl<|qm rfl<|qm rfl<|qk rfl<|qk rfl<|qk rfl<|qk rfl<|qk rfl<|qk rfl<|qm rfl<|Qh ?_
     exact ⟨rfl, true, Qf, hm, Qz⟩
   replace hm := iF c6 hm
   refine qv rfl (Qb Ha rfl)<|qv rfl (Qd (v := wv y4.X) Xm rfl m rfl)<|qv rfl (Qb Wz rfl)<|qv rfl (Qb Hu rfl) ?_
   have D := (((((o.gr G2).kz K3).kz K4).gr G5).md M6)
   refine qv rfl (Qd (v := wv p0.Group.Q) Xm rfl D rfl)<|qv rfl (Np (c := y4.X) (d := p0.Group.Q) rfl rfl)<|qm rfl<|qp rfl (Qm rfl) (fun c7 => ?_) (fun c7 => ?_)
   · replace hm := iT c7 hm
     refine qk rfl<|qk rfl<|qk rfl<|qm rfl<|qm rfl<|qk rfl<|qk rfl<|qk rfl<|qk rfl<|qk rfl<|qk rfl<|qm rfl<|Qh ?_
     exact ⟨rfl, true, Qf, hm, Qz⟩
   replace hm := iF c7 hm
   refine qv rfl (Qb Gz rfl)<|qv rfl (Qd (v := wv y4.Y) Xm rfl m rfl)<|qv rfl (Nr (c := y4.Y) (d := 1#64) rfl rfl)<|qm rfl<|qp rfl (Qm rfl) (fun c8 => ?_) (fun c8 => ?_)
   · replace hm := iT c8 hm
     refine qk rfl<|qk rfl<|qk rfl<|qk rfl<|qk rfl<|qk rfl<|qm rfl<|Qh ?_
     exact ⟨rfl, true, Qf, hm, Qz⟩
   replace hm := iF c8 hm
   refine qv rfl (Qb Gz rfl)<|qv rfl (Qd (v := wv y4.Y) Xm rfl m rfl)<|qv rfl (Qb Wz rfl)<|qv rfl (Qb Dh rfl)<|qv rfl (Qd (v := wv p0.Group.P) Xm rfl D rfl)<|qv rfl (Np (c := y4.Y) (d := p0.Group.P) rfl rfl)<|qm rfl<|Qh ?_
   exact ⟨rfl, (decide (p0.Group.P ≤ y4.Y)), Qf, hm, Qz⟩
 clear hm; rintro a5 w7 ⟨hm, K7⟩
 unfold Io at hm
 refine Xj rfl (fun c3 => ?_) (fun c3 => ?_)
 · replace hm := Xx c3 hm
   refine qs 1 rfl<|qm rfl<|qb<|Zz<|Zf<|Zf<|Zz<|Zf ?_
   have M := (C.kz K7)
   cases hm
   refine ⟨_, _, rfl, Qt rfl (Qg rfl), ?_⟩
   exact ⟨rfl, M⟩
 replace hm := Xw c3 hm
 refine qu<|qs 1 rfl<|qm rfl<|Qa<|Xi ?_
 have N := (C.kz K7)
 have O := (((n.gr G5).md M6 (Xd G)).kz K7)
 refine Zq (α := Nat × Int) ([4, 7] ++ rg 69 14) (fun ⟨n4, a7⟩ => [(4, .bool false), (7, .int .i64 a7)]) (fun ⟨n4, a7⟩ wr => (Qr (Mj p1 a3 j y4) n4 a7 = some r) ∧ Kz [] w7 wr) (fun ⟨n4, a7⟩ => n4) ⟨Xb, 0⟩ ?_ ?_ ?_
 · exact Qf
 · exact ⟨hm, Kz.refl _ _⟩
 clear hm; rintro ⟨n4, a7⟩ w8 ⟨hm, K8⟩
 have hb := Zx hm; clear hm; obtain ⟨n4, rfl, hm⟩ := hb
 generalize y : Qr (Mj p1 a3 j y4) n4 = Z at hm
 unfold Mj at hm
 try dsimp only at hm
 refine Qe<|qs 3 rfl<|qm rfl<|qm rfl<|qv rfl (Zc (a := a7) (b := a3) rfl rfl)<|Qa<|Zu rfl (fun c4 => ?_) (fun c4 => ?_)
 · replace hm := iF c4 hm
   refine Zl<|Xk<|Xk<|Zk<|Xy<|Xl<|qg 3 rfl<|qm rfl<|qv rfl (Zg (k := .i64) (a := a3) (b := 1) rfl rfl)<|qm rfl<|Qh ?_
   have K_31 : Kz [] w3 w8 := ((((K4.gr G5).md M6).kz K7).kz K8)
   subst t
   exact ⟨rfl, ⟨n2, Qi (a3 + 1)⟩, Qf, ⟨hm, K_31⟩, Nat.lt_succ_self _⟩
 replace hm := iT c4 hm
 refine qu<|Qe<|Xi<|Qe<|dw [([])] [] (.leaf [(0,10),(1,10),(2,10),(3,10),(4,10),(5,10),(6,10),(7,10),(8,10)]) ?_
 intro w9 G9 af
 refine Zj<|dh 0 rfl rfl (fun w hS => Qb Yw rfl) ?_
 have R := (((((x.gr G5).md M6).kz K7).kz K8).gr G9)
 refine dh 0 rfl rfl (fun w hS => Qd (v := vp1_2) Yx rfl (Bx.kp R hS) rfl)<|dm 0 rfl rfl ?_
 obtain ⟨y8, E, hm⟩ := Qc hm
 have F := ((O.kz K8).gr G9)
 refine dh 0 rfl rfl (fun w hS => Jm (i := a7) Tryz.underlying34 (Vk).siz rfl (Rd.kp F hS) rfl E)<|dh 0 rfl rfl (fun w hS => Qb Ha rfl)<|dh 0 rfl rfl (fun w hS => Vq (q := 0) (u := wv y8.X) Xm rfl (Rd.kp F hS) E (by first | rfl | omega) rfl)<|dh 0 rfl rfl (fun w hS => Qb Ha rfl) ?_
 have S := (((m.kz K7).kz K8).gr G9)
 refine dh 0 rfl rfl (fun w hS => Qd (v := wv y4.X) Xm rfl (Bx.kp S hS) rfl)<|dh 0 rfl rfl (fun w hS => Tp (c := y8.X) (d := y4.X) rfl rfl)<|Qa<|Xj rfl (fun c5 => ?_) (fun c5 => ?_)
 · replace hm := iT c5 hm
   refine qs 1 rfl<|qm rfl<|Qa<|Qo<|Zz<|Zf<|Zf<|Zz<|Zz<|Zf<|Zf<|Zz<|Zf ?_
   have T := ((N.kz K8).trans G9)
   cases hm
   refine ⟨_, _, rfl, Qt rfl (Qg rfl), ?_⟩
   exact ⟨rfl, T⟩
 replace hm := iF c5 hm
 refine Vi<|Xy<|Xl<|qg 3 rfl<|qm rfl<|qv rfl (Zg (k := .i64) (a := a7) (b := 1) rfl rfl)<|qm rfl<|Qh ?_
 have K_30 : Kz [] w7 w9 := (K8.gr G9)
 subst y
 exact ⟨rfl, ⟨n4, Qi (a7 + 1)⟩, Qf, ⟨hm, K_30⟩, Nat.lt_succ_self _⟩
theorem Xf4 {p0 p1 p2 r} (hm : Qgb p0 p1 p2 = some r) {w : World} :
    Calls Tryz.prog 350 [wv p0, wv p1, wv p2].toArray w fun e w' => ∃ v, e = .returned v ∧ (v = wv r ∧ Gr w w') := by
 unfold Qgb at hm
 refine Xe 16 Tryz.func350 rfl rfl rfl<|qs 1 rfl<|qm rfl<|qd 10 rfl<|qm rfl<|qm rfl<|qv rfl (Te (a := p1) (b := p0) rfl rfl)<|qm rfl<|qm rfl ?_
 obtain ⟨x1, f, hm⟩ := Qc hm
 refine qv rfl (Vm (c := p2) (d := p0) rfl rfl f)<|qv rfl (Mw (a := p1 + p0) (b := x1) rfl rfl)<|qm rfl ?_
 obtain ⟨x2, g, hm⟩ := Qc hm
 refine qv rfl (Vm (c := (p1 + p0) - x1) (d := p0) rfl rfl g)<|qm rfl<|Qa<|Qo ?_
 cases hm
 refine ⟨_, _, rfl, Qt rfl (Qg rfl), ?_⟩
 exact ⟨rfl, (Gr.refl w)⟩
theorem Xee {p0 p1 r} (hm : Qbv p0 p1 = some r) {w : World} :
    Calls Tryz.prog 349 [wv p0, wv p1].toArray w fun e w' => ∃ v, e = .returned v ∧ (v = .tuple [wv r.1, .bool r.2].toArray ∧ Gr w w') := by
 unfold Qbv at hm
 refine Xe 45 Tryz.func349 rfl rfl rfl<|qs 2 rfl<|qm rfl<|qm rfl<|Qa<|Qe<|dw [([])] [] (.leaf [(0,10),(1,10),(2,10),(3,10),(4,10),(5,10),(6,10)]) ?_
 intro w1 G1 t
 refine Zj<|dm 0 rfl rfl<|dm 0 rfl rfl ?_
 obtain ⟨x1, o, hm⟩ := Qc hm
 refine dh 0 rfl rfl (fun w hS => Vm (c := p0) (d := p1) rfl rfl o)<|dm 0 rfl rfl ?_
 obtain ⟨x2, p, hm⟩ := Qc hm
 refine dh 0 rfl rfl (fun w hS => Vm (c := 1#64) (d := p1) rfl rfl p)<|dm 0 rfl rfl<|dm 0 rfl rfl<|qd 3 rfl<|qm rfl<|qm rfl<|qm rfl<|Qa<|Qe<|Xi ?_
 have X1 := ((Gr.refl w).trans G1)
 refine Zq (α := Nat × BitVec 64 × BitVec 64 × BitVec 64 × BitVec 64) (rg 6 5 ++ rg 17 25) (fun ⟨n1, a7, a8, a9, f⟩ => [(6, wv a7), (7, wv a8), (8, wv a9), (9, wv f)]) (fun ⟨n1, a7, a8, a9, f⟩ wr => (Qr (Qbw p1) n1 (a7, a8, a9, f) = some r) ∧ Kz [] w1 wr) (fun ⟨n1, a7, a8, a9, f⟩ => n1) ⟨Xb, x1, x2, p1, 0#64⟩ ?_ ?_ ?_
 · exact Qf
 · exact ⟨hm, Kz.refl _ _⟩
 clear hm; rintro ⟨n1, a7, a8, a9, f⟩ w2 ⟨hm, K2⟩
 have hb := Zx hm; clear hm; obtain ⟨n1, rfl, hm⟩ := hb
 generalize h : Qr (Qbw p1) n1 = s at hm
 unfold Qbw at hm
 try dsimp only at hm
 refine Qe<|qs 2 rfl<|qm rfl<|qv rfl (Ok (c := a9) (d := 0#64) rfl rfl)<|Qa<|Zu rfl (fun c1 => ?_) (fun c1 => ?_)
 · replace hm := iF c1 hm
   refine Zl<|Xk<|Xk<|Zk<|Xl<|qs 5 rfl<|qm rfl<|qm rfl<|qv rfl (Tp (c := a7) (d := 1#64) rfl rfl)<|qm rfl<|qm rfl<|Qa<|Qo ?_
   have X4 := (X1.kz K2)
   cases hm
   refine ⟨_, _, rfl, Zb rfl (Qg rfl) (Qg rfl), ?_⟩
   exact ⟨rfl, X4⟩
 replace hm := iT c1 hm
 refine qu<|Xi<|qs 4 rfl<|qm rfl<|qm rfl ?_
 obtain ⟨g, j, hm⟩ := Qc hm
 refine qv rfl (Qop (c := a7) (d := a9) rfl rfl j)<|qm rfl<|qd 8 rfl<|qm rfl<|qm rfl<|qm rfl<|qm rfl<|qv rfl (Pw (a := g) (b := a9) rfl rfl)<|qv rfl (Mw (a := a7) (b := g * a9) rfl rfl)<|qm rfl<|qm rfl<|Qa<|dw [([])] [] (.leaf [(0,10),(1,10),(2,10),(3,10),(4,10),(5,10),(6,10),(7,10),(8,10),(9,10),(10,10),(11,10),(12,10),(13,10),(14,10),(15,10)]) ?_
 intro w3 G3 u
 refine Zj<|dm 0 rfl rfl<|dm 0 rfl rfl<|dm 0 rfl rfl<|dm 0 rfl rfl<|dm 0 rfl rfl ?_
 obtain ⟨k, l, hm⟩ := Qc hm
 refine dh 0 rfl rfl (fun w hS => Vm (c := g) (d := p1) rfl rfl l)<|dm 0 rfl rfl<|dh 0 rfl rfl (fun w hS => Pw (a := k) (b := f) rfl rfl)<|dm 0 rfl rfl ?_
 obtain ⟨i, m, hm⟩ := Qc hm
 refine dh 0 rfl rfl (fun w hS => Vm (c := k * f) (d := p1) rfl rfl m)<|dh 0 rfl rfl (fun w hS => Mw (a := p1) (b := i) rfl rfl)<|dh 0 rfl rfl (fun w hS => Te (a := a8) (b := p1 - i) rfl rfl)<|dm 0 rfl rfl ?_
 obtain ⟨q, n, hm⟩ := Qc hm
 refine dh 0 rfl rfl (fun w hS => Vm (c := a8 + (p1 - i)) (d := p1) rfl rfl n)<|dm 0 rfl rfl<|dm 0 rfl rfl<|Qh<|Xy ?_
 have K_3 : Kz [] w1 w3 := (K2.gr G3)
 subst h
 exact ⟨rfl, ⟨n1, a9, f, a7 - (g * a9), q⟩, Qf, ⟨hm, K_3⟩, Nat.lt_succ_self _⟩
theorem Xf3 {p0 p1 p2 vp1 zp1 gp1 op1 r} (hm : Qga p0 p1 p2 = some r) {w : World} (p : Rd w zp1 gp1 op1 1 vp1 (p1.map Kr)) :
    Calls Tryz.prog 295 [wv p0, vp1, .int .i64 p2].toArray w fun e w' => ∃ v, e = .returned v ∧ (v = wv r ∧ Gr w w') := by
 unfold Qga at hm
 refine Xe 48 Tryz.func295 rfl rfl rfl<|qs 1 rfl<|qm rfl<|qd 1 rfl<|qm rfl<|Qa<|Qe<|qs 1 rfl<|qm rfl<|Qa<|Xi<|Zq (α := Nat × BitVec 64 × Int) (rg 7 40) (fun ⟨n1, a3, a4⟩ => [(7, wv a3), (8, .int .i64 a4)]) (fun ⟨n1, a3, a4⟩ wr => (Qr (Qcg p0 p1 p2) n1 (a3, a4) = some r) ∧ Kz [] w wr) (fun ⟨n1, a3, a4⟩ => n1) ⟨Xb, 1#64, 0⟩ ?_ ?_ ?_
 · exact Qf
 · exact ⟨hm, Kz.refl _ _⟩
 clear hm; rintro ⟨n1, a3, a4⟩ w1 ⟨hm, K1⟩
 have hb := Zx hm; clear hm; obtain ⟨n1, rfl, hm⟩ := hb
 generalize f : Qr (Qcg p0 p1 p2) n1 = z at hm
 unfold Qcg at hm
 try dsimp only at hm
 refine Qe<|qs 4 rfl<|qm rfl<|qm rfl ?_
 have B3 := (p.kz K1)
 refine qv rfl (Zo (l := p1) (c := Kr) Tryz.underlying308 rfl B3)<|qv rfl (Zc (a := a4) (b := (p1.length : Int)) rfl rfl)<|Qa<|Zu rfl (fun c1 => ?_) (fun c1 => ?_)
 · replace hm := iF c1 hm
   refine Zl<|Xk<|Xk<|Zk<|Xl<|qs 2 rfl<|qm rfl<|qm rfl<|Qa<|Qo ?_
   have s := ((Gr.refl w).kz K1)
   cases hm
   refine ⟨_, _, rfl, Qt rfl (Qg rfl), ?_⟩
   exact ⟨rfl, s⟩
 replace hm := iT c1 hm
 refine qu<|Qe<|Xi<|Qe<|qs 3 rfl<|qm rfl<|qm rfl<|qv rfl (Jr (a := a4) (b := p2) rfl rfl)<|Qa<|Xj rfl (fun c2 => ?_) (fun c2 => ?_)
 · replace hm := iT c2 hm
   refine Zl<|Xk<|Zk<|Xl<|qg 3 rfl<|qm rfl<|qv rfl (Zg (k := .i64) (a := a4) (b := 1) rfl rfl)<|qm rfl<|Qh ?_
   have K_4 : Kz [] w w1 := K1
   subst f
   exact ⟨rfl, ⟨n1, a3, Qi (a4 + 1)⟩, Qf, ⟨hm, K_4⟩, Nat.lt_succ_self _⟩
 replace hm := iF c2 hm
 refine qu<|Qe<|dw [([])] [] (.leaf [(0,10),(1,10),(2,10),(3,10),(4,10),(5,10),(6,10),(7,10),(8,10),(10,10),(9,0),(11,0),(12,10),(13,10),(14,10),(15,10),(16,10)]) ?_
 intro w2 G2 A
 refine Zj<|dm 0 rfl rfl<|dm 0 rfl rfl<|dm 0 rfl rfl ?_
 obtain ⟨y5, g, hm⟩ := Qc hm
 have B5 := (B3.gr G2)
 refine dh 0 rfl rfl (fun w hS => Jm (i := a4) Tryz.underlying308 (Xm).siz rfl (Rd.kp B5 hS) rfl g)<|dh 0 rfl rfl (fun w hS => Vq (q := 0) (u := wv y5) Xm rfl (Rd.kp B5 hS) g (by first | rfl | omega) rfl)<|dm 0 rfl rfl<|dm 0 rfl rfl ?_
 obtain ⟨y6, h, hm⟩ := Qc hm
 refine dh 0 rfl rfl (fun w hS => Jm (i := p2) Tryz.underlying308 (Xm).siz rfl (Rd.kp B5 hS) rfl h)<|dh 0 rfl rfl (fun w hS => Vq (q := 0) (u := wv y6) Xm rfl (Rd.kp B5 hS) h (by first | rfl | omega) rfl)<|dm 0 rfl rfl ?_
 obtain ⟨x7, t, hm⟩ := Qc hm
 refine qz [] rfl (eC Qzm rfl (Xf4 t)) ⟨fun _ => Qj, trivial⟩ ?_
 rintro _ w3 ⟨rfl, G3⟩
 refine kG G3 ?_
 obtain ⟨x8, x, hm⟩ := Qc hm
 refine qz [] rfl (eC Qzk rfl (Xee x)) ⟨fun _ => Qj, trivial⟩ ?_
 rintro _ w4 ⟨rfl, G4⟩
 refine kG G4 ?_
 have S8 := (((Kp.refl ([]) w2).gr G3).gr G4)
 refine dn 0 rfl rfl S8<|dn 0 rfl rfl S8<|dn 0 rfl rfl S8<|dn 0 rfl rfl S8<|dn 0 rfl rfl S8<|Qa<|qg 13 rfl<|qm rfl<|qm rfl<|qm rfl ?_
 obtain ⟨y9, j, hm⟩ := Qc hm
 have B9 := ((B5.gr G3).gr G4)
 refine qv rfl (Jm (i := a4) Tryz.underlying308 (Xm).siz rfl B9 rfl j)<|qv rfl (Vq (q := 0) (u := wv y9) Xm rfl B9 j (by first | rfl | omega) rfl)<|qv rfl (Pw (a := a3) (b := y9) rfl rfl)<|qm rfl ?_
 obtain ⟨m, n, hm⟩ := Qc hm
 refine qv rfl (Vm (c := a3 * y9) (d := p0) rfl rfl n)<|qm rfl<|qv rfl (Pw (a := m) (b := x8.1) rfl rfl)<|qm rfl ?_
 obtain ⟨y, o, hm⟩ := Qc hm
 refine qv rfl (Vm (c := m * x8.1) (d := p0) rfl rfl o)<|qm rfl<|Qh<|Xy<|Xl<|qg 3 rfl<|qm rfl<|qv rfl (Zg (k := .i64) (a := a4) (b := 1) rfl rfl)<|qm rfl<|Qh ?_
 have K_10 : Kz [] w w4 := (((K1.gr G2).gr G3).gr G4)
 subst f
 exact ⟨rfl, ⟨n1, y, Qi (a4 + 1)⟩, Qf, ⟨hm, K_10⟩, Nat.lt_succ_self _⟩
theorem Qu3 {p0 r} (hm : Qjh p0 = some r) {w : World} :
    Calls Tryz.prog 275 [wv p0].toArray w fun e w' => ∃ v, e = .returned v ∧ (v = kv r ∧ Gr w w') := by
 unfold Qjh at hm
 refine Xe 6 Tryz.func275 rfl rfl rfl<|qs 1 rfl<|qe rfl (Xh (cs := kb k0) Zh rfl) ?_
 rintro _ w1 ⟨b1, rfl, c, a, G1⟩
 refine qd 4 rfl<|qv rfl (Vz Vt)<|qm rfl<|qe rfl (eC Dt rfl (Td k0 (Xf 42#8) (Vy _) (Vx _) p0 _)) ?_
 rintro _ w2 ⟨rfl, G2⟩
 have B4 := (a.gr G2)
 refine qe rfl (Qx Ql rfl rfl rfl B4 rfl rfl) ?_
 rintro _ w3 ⟨b, M3⟩
 refine Qa<|Qo ?_
 have X6 := ((((Gr.refl w).trans G1).trans G2).md M3)
 cases hm
 refine ⟨_, _, rfl, Qt rfl (Xr Ql rfl b rfl), ?_⟩
 exact ⟨rfl, X6⟩
theorem Xey {p0 p1 p2 vp1_1 zp1_1 gp1_1 op1_1 vp2_0 zp2_0 gp2_0 op2_0 vp2_2 zp2_2 gp2_2 op2_2 r} (hm : Mg p0 p1 p2 = some r) {w : World} (N : Rd w zp1_1 gp1_1 op1_1 18 vp1_1 (p1.Labels.map Xn.cs)) (F : Rd w zp2_0 gp2_0 op2_0 18 vp2_0 (p2.Items.map Zd.cs)) (G : Rd w zp2_2 gp2_2 op2_2 2 vp2_2 (p2.Points.map Qu.cs)) :
    Calls Tryz.prog 197 [.agg (Qs.cs p0).toArray, .agg (Qq.cs p1 vp1_1).toArray, .agg (Zi.cs p2 vp2_0 vp2_2).toArray].toArray w fun e w' => ∃ v, e = .returned v ∧ (v = .tuple [kv r.1, .int .i64 r.2].toArray ∧ Gr w w') := by
 have df := N.lth
 have dg := F.lth
 have W := G.lth
 unfold Mg at hm
 refine Xe 131 Tryz.func197 rfl rfl rfl<|qs 5 rfl<|qe rfl (Qy (cs := Qs.cs p0) rfl rfl) ?_
 rintro _ w1 ⟨b1, rfl, cQ, aK, G1⟩
 have di := aK.lt
 refine qe rfl (Qy (cs := Qq.cs p1 vp1_1) rfl rfl) ?_
 rintro _ w2 ⟨b2, rfl, cR, aq, G2⟩
 have dj := aq.lt
 refine qe rfl (Qy (cs := Zi.cs p2 vp2_0 vp2_2) rfl rfl) ?_
 rintro _ w3 ⟨b3, rfl, cS, ar, G3⟩
 have dk := ar.lt
 refine qe rfl (Xh (cs := kb k0) Zh rfl) ?_
 rintro _ w4 ⟨b4, rfl, cT, K, G4⟩
 have cU := K.lt
 refine qm rfl<|Qa<|Qe<|qs 3 rfl ?_
 have Y1 := Gr.trans (Gr.trans G2 G3) G4
 have aL := (aK.gr Y1)
 refine qv rfl (Qp Zw rfl aL rfl) ?_
 obtain ⟨x1, bX, hm⟩ := Qc hm
 refine qe rfl (eC Qlk rfl (Qnu bX)) ?_
 rintro _ w5 ⟨rfl, G5⟩
 have dl := G5.size
 refine qv rfl (Jb rfl)<|Qa<|Xj rfl (fun c1 => ?_) (fun c1 => ?_)
 · replace hm := Xx c1 hm
   refine qs 3 rfl<|qv rfl (Vz Vt) ?_
   have bY := (K.gr G5)
   refine qe rfl (Qx Ql rfl rfl rfl bY rfl rfl) ?_
   rintro _ w6 ⟨bZ, M6⟩
   refine qm rfl<|qb ?_
   have Y2 := Gr.trans (Gr.trans G1 Y1) G5
   have b0 := (((Gr.refl w).trans Y2).md M6)
   cases hm
   refine ⟨_, _, rfl, Zb rfl (Xr Ql rfl bZ rfl) (Qg rfl), ?_⟩
   exact ⟨rfl, b0⟩
 replace hm := Xw c1 hm
 refine qu<|Qe<|dw [([])] [] (.leaf [(0,10),(1,10),(2,10),(3,10),(4,10),(5,10),(6,10),(7,10)]) ?_
 intro w7 G7 dp
 refine Zj<|dh 0 rfl rfl (fun w hS => Qb Wz rfl)<|dh 0 rfl rfl (fun w hS => Qb Dh rfl) ?_
 have Y3 := Gr.trans G5 G7
 have au := (aL.gr Y3)
 refine dh 0 rfl rfl (fun w hS => Qd (v := wv p0.Group.P) Xm rfl (Bx.kp au hS) rfl)<|dh 0 rfl rfl (fun w hS => Qb Wz rfl)<|dh 0 rfl rfl (fun w hS => Qb Hu rfl)<|dh 0 rfl rfl (fun w hS => Qd (v := wv p0.Group.Q) Xm rfl (Bx.kp au hS) rfl)<|dm 0 rfl rfl<|dm 0 rfl rfl<|Qa<|Qe ?_
 have Y4 := Gr.trans (Gr.trans G1 Y1) Y3
 have aM := ((Gr.refl w).trans Y4)
 refine qj (β := Bool) (rg 26 24) (fun a2 => [(49, .bool a2)]) (fun a2 wr => (Ik p0 p1 p2 a2 = some r) ∧ Kz [] w7 wr) ?_ ?_
 · refine qg 24 rfl<|qv rfl (Qp Zw rfl au rfl) ?_
   have Y5 := Gr.trans G4 Y3
   have aN := (ar.gr Y5)
   refine qv rfl (Qp Gn rfl aN rfl) ?_
   have aO := (F.gr Y4)
   have aP := (G.gr Y4)
   obtain ⟨dq, aQ, hm⟩ := Qc hm
   refine qe rfl (eC Qz2 rfl (Xf1 aQ aO aP)) ?_
   rintro _ dr ⟨rfl, O⟩
   refine qv rfl (Jb rfl)<|qp rfl (Qm rfl) (fun c7 => ?_) (fun c7 => ?_)
   · replace hm := Xx c7 hm
     refine qk rfl<|qk rfl<|qk rfl<|qk rfl<|qm rfl<|qm rfl<|qk rfl<|qk rfl<|qk rfl<|qk rfl<|qk rfl<|qm rfl<|qm rfl<|qk rfl<|qk rfl<|qk rfl<|qk rfl<|qk rfl<|qm rfl<|Qh ?_
     exact ⟨rfl, true, Qf, hm, (Qz.gr O)⟩
   replace hm := Xw c7 hm
   refine qv rfl (Qb Na rfl)<|qv rfl (Qb Ha rfl) ?_
   have R := (((aq.gr G3).gr Y5).gr O)
   refine qv rfl (Qd (v := wv p1.Share.X) Xm rfl R rfl)<|qv rfl (Nr (c := p1.Share.X) (d := 1#64) rfl rfl)<|qm rfl<|qp rfl (Qm rfl) (fun c8 => ?_) (fun c8 => ?_)
   · replace hm := iT c8 hm
     refine qk rfl<|qk rfl<|qk rfl<|qk rfl<|qk rfl<|qm rfl<|qm rfl<|qk rfl<|qk rfl<|qk rfl<|qk rfl<|qk rfl<|qm rfl<|Qh ?_
     exact ⟨rfl, true, Qf, hm, (Qz.gr O)⟩
   replace hm := iF c8 hm
   refine qv rfl (Qb Na rfl)<|qv rfl (Qb Ha rfl)<|qv rfl (Qd (v := wv p1.Share.X) Xm rfl R rfl)<|qm rfl<|qv rfl (Np (c := p1.Share.X) (d := p0.Group.Q) rfl rfl)<|qm rfl<|qp rfl (Qm rfl) (fun c9 => ?_) (fun c9 => ?_)
   · replace hm := iT c9 hm
     refine qk rfl<|qk rfl<|qk rfl<|qk rfl<|qk rfl<|qm rfl<|Qh ?_
     exact ⟨rfl, true, Qf, hm, (Qz.gr O)⟩
   replace hm := iF c9 hm
   refine qv rfl (Qb Na rfl)<|qv rfl (Qb Gz rfl)<|qv rfl (Qd (v := wv p1.Share.Y) Xm rfl R rfl)<|qm rfl<|qv rfl (Np (c := p1.Share.Y) (d := p0.Group.Q) rfl rfl)<|qm rfl<|Qh ?_
   exact ⟨rfl, (decide (p0.Group.Q ≤ p1.Share.Y)), Qf, hm, (Qz.gr O)⟩
 clear hm; rintro a2 w8 ⟨hm, K8⟩
 have ds := K8.size
 unfold Ik at hm
 refine Xj rfl (fun c2 => ?_) (fun c2 => ?_)
 · replace hm := Xx c2 hm
   refine qs 3 rfl<|qv rfl (Vz Vt) ?_
   have b5 := ((K.gr Y3).kz K8)
   refine qe rfl (Qx Ql rfl rfl rfl b5 rfl rfl) ?_
   rintro _ w9 ⟨b6, M9⟩
   refine qm rfl<|qb ?_
   have b7 := ((aM.kz K8).md M9)
   cases hm
   refine ⟨_, _, rfl, Zb rfl (Xr Ql rfl b6 rfl) (Qg rfl), ?_⟩
   exact ⟨rfl, b7⟩
 replace hm := Xw c2 hm
 refine qu<|qs 5 rfl<|qv rfl (Qb Na rfl)<|qv rfl (Qb Ha rfl) ?_
 have Y6 := Gr.trans (Gr.trans G3 G4) Y3
 have aR := ((aq.gr Y6).kz K8)
 refine qv rfl (Qd (v := wv p1.Share.X) Xm rfl aR rfl)<|qe rfl (Ve [p1.Share.X] Kr Lu rfl rfl (Kx rfl) rfl rfl rfl) ?_
 rintro aS dt ⟨f, b8, ag, Z⟩
 have du := Z.size
 have aT := ag.lth
 refine qm rfl<|qd 9 rfl<|qv rfl (Qb Gy rfl) ?_
 have Y7 := Gr.trans G4 Y3
 have aU := (((ar.gr Y7).kz K8).gr Z)
 refine qv rfl (Qd (v := wv p2.Base) Xm rfl aU rfl)<|qv rfl (Qb Na rfl)<|qv rfl (Qb Gz rfl) ?_
 have aV := (aR.gr Z)
 refine qv rfl (Qd (v := wv p1.Share.Y) Xm rfl aV rfl)<|qm rfl ?_
 obtain ⟨x3, b9, hm⟩ := Qc hm
 refine qe rfl (eC Qls rfl (Qnl b9)) ?_
 rintro _ dv ⟨rfl, av⟩
 have dy := av.size
 refine qe rfl (Ve [x3] Kr Lu rfl rfl (Kx rfl) rfl rfl rfl) ?_
 rintro aW p ⟨g, ca, aX, aw⟩
 have dz := aw.size
 refine qm rfl<|Qa<|Qe<|qs 1 rfl<|qm rfl<|Qa<|Xi ?_
 have Y8 := Gr.trans (Gr.trans Z av) aw
 have aY := ((aM.kz K8).trans Y8)
 have dA := (((N.gr Y4).kz K8).gr Y8)
 have dB := (((F.gr Y4).kz K8).gr Y8)
 have cb := (((G.gr Y4).kz K8).gr Y8)
 have Y9 := Gr.trans av aw
 have cc := (ag.gr Y9)
 refine Zq (α := Nat × List (BitVec 64) × List (BitVec 64) × Int × Value × Nat × Nat × Value × Nat × Nat) ([7, 10, 11, 12] ++ rg 63 36) (fun ⟨n2, a9, B, n, vy10, zy10, gy10, vy12, zy12, gy12⟩ => [(7, .int .i64 0), (10, vy10), (11, vy12), (12, .int .i64 n)]) (fun ⟨n2, a9, B, n, vy10, zy10, gy10, vy12, zy12, gy12⟩ wr => (Qr (Il p0 p1 p2) n2 (a9, B, n) = some r) ∧ Qn wr zy10 gy10 24 1 vy10 (a9.map Kr) ∧ Zm (zy10 = 0 ∨ (gy10 = f ∧ 1 ≠ 0) ∨ p.heap.size ≤ gy10) ∧ Qn wr zy12 gy12 24 1 vy12 (B.map Kr) ∧ Zm (zy12 = 0 ∨ (gy12 = g ∧ 1 ≠ 0) ∨ p.heap.size ≤ gy12) ∧ Zm (zy12 = 0 ∨ zy10 = 0 ∨ gy12 ≠ gy10) ∧ Kz [(1, f), (1, g)] p wr) (fun ⟨n2, a9, B, n, vy10, zy10, gy10, vy12, zy12, gy12⟩ => n2) ⟨Xb, [p1.Share.X], [x3], 0, aS, 1, f, aW, 1, g⟩ ?_ ?_ ?_
 · exact Qf
 · exact ⟨hm, cc, ⟨Qj⟩, aX, ⟨Qj⟩, ⟨(.inr (Qk aT.o))⟩, Kz.refl _ _⟩
 clear hm; rintro ⟨n2, a9, B, n, vy10, zy10, gy10, vy12, zy12, gy12⟩ aZ ⟨hm, I, j, t, J, y, s⟩
 have dC := s.size
 have ah := t.lth
 have hb := Zx hm; clear hm; obtain ⟨n2, rfl, hm⟩ := hb
 generalize ax : Qr (Il p0 p1 p2) n2 = cV at hm
 unfold Il at hm
 try dsimp only at hm
 refine Qe<|qs 5 rfl<|qm rfl<|qv rfl (Qb Yw rfl) ?_
 have aa := ((aU.gr Y9).kz s (Ke ((.inr Qj) : 1 = 0 ∨ f ≠ b3) ((.inr Qj) : 1 = 0 ∨ g ≠ b3)))
 refine qv rfl (Qd (v := vp2_2) Yx rfl aa rfl) ?_
 have a0 := (cb.kz s (Ke ((Jl (.inr (Qk W.o))) : zp2_2 = 0 ∨ 1 = 0 ∨ gp2_2 ≠ f) ((Jl (.inr (Qk W.o))) : zp2_2 = 0 ∨ 1 = 0 ∨ gp2_2 ≠ g)))
 refine qv rfl (Zo (l := p2.Points) (c := Qu.cs) Tryz.underlying34 rfl a0)<|qv rfl (Zc (a := n) (b := (p2.Points.length : Int)) rfl rfl)<|Qa<|Xj rfl (fun c3 => ?_) (fun c3 => ?_)
 · replace hm := iT c3 hm
   refine qu<|Qe<|Xi<|Qe<|Qe<|dw [([])] [] (.leaf [(0,10),(1,10),(2,10),(3,10),(4,10),(5,10),(6,10),(7,10),(8,10),(9,10)]) ?_
   intro dD C cW
   refine Zj<|dh 0 rfl rfl (fun w hS => Qb Yw rfl) ?_
   have ay := (aa.gr C)
   refine dh 0 rfl rfl (fun w hS => Qd (v := vp2_2) Yx rfl (Bx.kp ay hS) rfl)<|dm 0 rfl rfl ?_
   obtain ⟨a1, ai, hm⟩ := Qc hm
   have S := (a0.gr C)
   refine dh 0 rfl rfl (fun w hS => Jm (i := n) Tryz.underlying34 (Vk).siz rfl (Rd.kp S hS) rfl ai)<|dh 0 rfl rfl (fun w hS => Qb Ha rfl)<|dh 0 rfl rfl (fun w hS => Vq (q := 0) (u := wv a1.X) Xm rfl (Rd.kp S hS) ai (by first | rfl | omega) rfl)<|dh 0 rfl rfl (fun w hS => Qb Na rfl)<|dh 0 rfl rfl (fun w hS => Qb Ha rfl) ?_
   have cd := (((aV.gr Y9).kz s (Ke ((.inr Qj) : 1 = 0 ∨ f ≠ b2) ((.inr Qj) : 1 = 0 ∨ g ≠ b2))).gr C)
   refine dh 0 rfl rfl (fun w hS => Qd (v := wv p1.Share.X) Xm rfl (Bx.kp cd hS) rfl)<|dh 0 rfl rfl (fun w hS => Tp (c := a1.X) (d := p1.Share.X) rfl rfl)<|Qa<|Xj rfl (fun c4 => ?_) (fun c4 => ?_)
   · replace hm := iT c4 hm
     refine qs 3 rfl<|qv rfl (Vz Vt) ?_
     have ce := (((((K.gr Y3).kz K8).gr Y8).kz s (Ke ((.inr Qj) : 1 = 0 ∨ f ≠ b4) ((.inr Qj) : 1 = 0 ∨ g ≠ b4))).gr C)
     refine qe rfl (Qx Ql rfl rfl rfl ce rfl rfl) ?_
     rintro _ dE ⟨a3, cg⟩
     refine qm rfl<|qb<|Zz<|Zf<|Zf<|Zz<|Zf ?_
     have ch := (((aY.kz s (Ke ((.inr Qj) : 1 = 0 ∨ w.heap.size ≤ f) ((.inr Qj) : 1 = 0 ∨ w.heap.size ≤ g))).trans C).md cg)
     cases hm
     refine ⟨_, _, rfl, Zb rfl (Xr Ql rfl a3 rfl) (Qg rfl), ?_⟩
     exact ⟨rfl, ch⟩
   replace hm := iF c4 hm
   refine qu<|qs 10 rfl<|qm rfl<|qv rfl (Qb Yw rfl)<|qv rfl (Qd (v := vp2_2) Yx rfl ay rfl)<|qm rfl ?_
   obtain ⟨az, aj, hm⟩ := Qc hm
   refine qv rfl (Jm (i := n) Tryz.underlying34 (Vk).siz rfl S rfl aj)<|qv rfl (Qb Ha rfl)<|qv rfl (Vq (q := 0) (u := wv az.X) Xm rfl S aj (by first | rfl | omega) rfl)<|qe rfl (Ve [az.X] Kr Lu rfl rfl (Kx rfl) rfl rfl rfl) ?_
   rintro cX dF ⟨cY, ci, a4, L⟩
   have dG := L.size
   have cj := ((I.gr C).gr L)
   obtain ⟨ck, a5, hm⟩ := Qc hm
   refine qe rfl (Vl (l := a9) (m := [az.X]) (c := Kr) Ow rfl rfl cj (Qn.rd a4) a5 (by decide)) ?_
   rintro a6 dH ⟨ak, al, a7, D, a8, T⟩
   have dI := D.size
   refine qm rfl<|Qa<|qg 10 rfl<|qm rfl<|qv rfl (Qb Yw rfl) ?_
   have cl := ((ay.gr L).ka D (Qk (Xp (b := b3) j (.inr Qj))))
   refine qv rfl (Qd (v := vp2_2) Yx rfl cl rfl)<|qm rfl ?_
   obtain ⟨aA, am, hm⟩ := Qc hm
   have ba := ((S.gr L).ka D (Qk ((Jl (Xc (A := (fun x => zp2_2 = 0 ∨ x ≠ gp2_2)) j (.inr (Qk W.o)) (fun x hx => (Qk W.o)))) : zp2_2 = 0 ∨ zy10 = 0 ∨ gp2_2 ≠ gy10)))
   refine qv rfl (Jm (i := n) Tryz.underlying34 (Vk).siz rfl ba rfl am)<|qv rfl (Qb Gz rfl)<|qv rfl (Vq (q := 1) (u := wv aA.Y) Xm rfl ba am (by first | rfl | omega) rfl)<|qe rfl (Ve [aA.Y] Kr Lu rfl rfl (Kx rfl) rfl rfl rfl) ?_
   rintro cZ dJ ⟨c0, cm, bb, ab⟩
   have dK := ab.size
   have cn := ((((t.gr C).gr L).ka D (Qk ((Qk y.o) : zy12 = 0 ∨ zy10 = 0 ∨ gy12 ≠ gy10))).gr ab)
   obtain ⟨co, bd, hm⟩ := Qc hm
   refine qe rfl (Vl (l := B) (m := [aA.Y]) (c := Kr) Ow rfl rfl cn (Qn.rd bb) bd (by decide)) ?_
   rintro bf cp ⟨bg, bh, bi, an, da, ao⟩
   refine qm rfl<|Qh<|Xy<|Xl<|qg 3 rfl<|qm rfl<|qv rfl (Zg (k := .i64) (a := n) (b := 1) rfl rfl)<|qm rfl<|Qh ?_
   have K_57 : Kz [(1, f), (1, g)] p cp := (((((s.gr C).gr L).ka D (Qk (Xc (A := (fun x => (x = f ∧ 1 ≠ 0) ∨ (x = g ∧ 1 ≠ 0) ∨ p.heap.size ≤ x)) j Qj))).gr ab).ka an (Qk (Xc (A := (fun x => (x = f ∧ 1 ≠ 0) ∨ (x = g ∧ 1 ≠ 0) ∨ p.heap.size ≤ x)) J Qj)))
   have cq := ((a7.gr ab).ka an (Qk (Jg (A := (fun x => zy12 = 0 ∨ x ≠ gy12)) T (Qk y.o) (fun x hx => (Qk ah.o)))))
   subst ax
   exact ⟨rfl, ⟨n2, ck, co, Qi (n + 1), a6, ak, al, bf, bg, bh⟩, Qf, ⟨hm, cq, ⟨(Jg (A := (fun x => (x = f ∧ 1 ≠ 0) ∨ p.heap.size ≤ x)) T (Xc (A := (fun x => (x = f ∧ 1 ≠ 0) ∨ p.heap.size ≤ x)) j Qj))⟩, bi, ⟨(Jg (A := (fun x => (x = g ∧ 1 ≠ 0) ∨ p.heap.size ≤ x)) ao (Xc (A := (fun x => (x = g ∧ 1 ≠ 0) ∨ p.heap.size ≤ x)) J Qj))⟩, ⟨(Jg (A := (fun x => ak = 0 ∨ x ≠ al)) ao (Jl (Jg (A := (fun x => zy12 = 0 ∨ x ≠ gy12)) T (Qk y.o) (fun x hx => (Qk ah.o)))) (fun x hx => (Qk a8.o)))⟩, K_57⟩, Nat.lt_succ_self _⟩
 replace hm := iF c3 hm
 refine Zl<|Xk<|Xk<|Zk<|Xl<|qs 1 rfl<|qm rfl<|Qa<|Qe<|qs 1 rfl<|qm rfl<|Qa<|Xi ?_
 have cr := (aY.kz s (Ke ((.inr Qj) : 1 = 0 ∨ w.heap.size ≤ f) ((.inr Qj) : 1 = 0 ∨ w.heap.size ≤ g)))
 refine Zq (α := Nat × BitVec 64 × Int) ([13, 14] ++ rg 99 20) (fun ⟨n3, H, z⟩ => [(13, wv H), (14, .int .i64 z)]) (fun ⟨n3, H, z⟩ wr => (Qr (Rq p0 p2 a9 B) n3 (H, z) = some r) ∧ Kz [] aZ wr) (fun ⟨n3, H, z⟩ => n3) ⟨Xb, 1#64, 0⟩ ?_ ?_ ?_
 · exact Qf
 · exact ⟨hm, Kz.refl _ _⟩
 clear hm; rintro ⟨n3, H, z⟩ bj ⟨hm, E⟩
 have hb := Zx hm; clear hm; obtain ⟨n3, rfl, hm⟩ := hb
 generalize aB : Qr (Rq p0 p2 a9 B) n3 = db at hm
 unfold Rq at hm
 try dsimp only at hm
 refine Qe<|qs 4 rfl<|qm rfl<|qm rfl ?_
 have bk := (I.kz E)
 refine qv rfl (Zo (l := a9) (c := Kr) Tryz.underlying308 rfl (Qn.rd bk))<|qv rfl (Zc (a := z) (b := (a9.length : Int)) rfl rfl)<|Qa<|Xj rfl (fun c5 => ?_) (fun c5 => ?_)
 · replace hm := iT c5 hm
   refine qu<|Qe<|Xi<|dw [([])] [] (.leaf [(0,10),(1,10),(2,10),(3,10),(4,10),(5,10),(6,10),(7,10),(9,10),(12,10),(8,0),(10,0),(11,10),(13,10),(14,10)]) ?_
   intro ct aC dc
   refine Zj<|dm 0 rfl rfl<|dm 0 rfl rfl<|dm 0 rfl rfl ?_
   obtain ⟨cu, ap, hm⟩ := Qc hm
   have bl := ((t.kz E).gr aC)
   refine dh 0 rfl rfl (fun w hS => Jm (i := z) Tryz.underlying308 (Xm).siz rfl (Qn.rd (Qn.kp bl hS)) rfl ap)<|dh 0 rfl rfl (fun w hS => Vq (q := 0) (u := wv cu) Xm rfl (Qn.rd (Qn.kp bl hS)) ap (by first | rfl | omega) rfl)<|dm 0 rfl rfl<|dm 0 rfl rfl<|dm 0 rfl rfl<|dm 0 rfl rfl<|dm 0 rfl rfl ?_
   have cv := (bk.gr aC)
   obtain ⟨dL, bm, hm⟩ := Qc hm
   refine qz [] rfl (eC Qz3 rfl (Xf3 bm (Qn.rd cv))) ⟨fun _ => Qj, trivial⟩ ?_
   rintro _ dM ⟨rfl, aD⟩
   refine kG aD ?_
   obtain ⟨bo, bp, hm⟩ := Qc hm
   refine qz [] rfl (eC Qls rfl (Qnl bp)) ⟨fun _ => Qj, trivial⟩ ?_
   rintro _ cw ⟨rfl, aE⟩
   refine kG aE ?_
   have aF := (((Kp.refl ([]) ct).gr aD).gr aE)
   refine qh 0 rfl rfl aF (fun w hS => Pw (a := H) (b := bo) rfl rfl) ?_
   obtain ⟨cx, bq, hm⟩ := Qc hm
   refine qh 0 rfl rfl aF (fun w hS => Vm (c := H * bo) (d := p0.Group.P) rfl rfl bq)<|dn 0 rfl rfl aF<|Qh<|Xy<|Xl<|qg 3 rfl<|qm rfl<|qv rfl (Zg (k := .i64) (a := z) (b := 1) rfl rfl)<|qm rfl<|Qh ?_
   have K_69 : Kz [] aZ cw := (((E.gr aC).gr aD).gr aE)
   subst aB
   exact ⟨rfl, ⟨n3, cx, Qi (z + 1)⟩, Qf, ⟨hm, K_69⟩, Nat.lt_succ_self _⟩
 replace hm := iF c5 hm
 refine Zl<|Xk<|Xk<|Zk<|Xl ?_
 have br := (cr.kz E)
 refine qj (β := W2 × Nat) ([15] ++ rg 119 5) (fun ⟨M, bq27⟩ => [(15, .pointer (some ⟨bq27, 0, none⟩))]) (fun ⟨M, bq27⟩ wr => (Qg6 p2 M = some r) ∧ Bx wr bq27 23 (kb M) ∧ bj.heap.size ≤ bq27 ∧ Kz [] bj wr) ?_ ?_
 · refine dw [([])] [] (.fork [(0,10),(2,10),(3,10)] (.fork [(1,0)] (.leaf [(4,0),(5,0),(6,0)]) (.leaf [(5,0),(4,0),(6,0)])) (.leaf [(5,0),(1,0),(4,0),(6,0)])) ?_
   intro dN ac dd
   refine Pb<|dm 0 rfl rfl<|dh 0 rfl rfl (fun w hS => Qb Bw rfl) ?_
   have cy := ((aa.kz E).gr ac)
   refine dh 0 rfl rfl (fun w hS => Zy (vs := kb p2.Box) Ql rfl (Bx.kp cy hS) rfl rfl)<|Hz ?_ ?_
   · refine Pb ?_
     obtain ⟨dO, bs, hm⟩ := Qc hm
     refine qz [] rfl (eC Qqi rfl (Qu3 bs)) ⟨fun _ => Qj, trivial⟩ ?_
     rintro _ dP ⟨rfl, ad⟩
     have dQ := ad.size
     refine kG ad<|Hz ?_ ?_
     · refine Zj ?_
       obtain ⟨cz, bu, hm⟩ := Qc hm
       refine qz [] rfl (eC Qe8 rfl (Qfq bu)) ⟨fun _ => Qj, trivial⟩ ?_
       rintro _ dR ⟨rfl, aG⟩
       have dS := aG.size
       refine kG aG<|qz [] rfl (Xh (cs := kb k0) Zh rfl) ⟨fun _ => Qj, trivial⟩ ?_
       rintro _ dT ⟨bx, rfl, cA, bz, bA⟩
       refine kG bA<|qz [(1, bx)] rfl (Qx Ql rfl rfl rfl bz rfl rfl) ⟨fun _ => Qj, trivial⟩ ?_
       rintro _ dU ⟨bB, bC⟩
       refine kM bC<|Qh ?_
       exact ⟨rfl, ⟨cz, bx⟩, Qf, hm, bB, (by omega), (((((Qz.gr ac).gr ad).gr aG).gr bA).md bC)⟩
     refine Zj<|qz [] rfl (Xh (cs := kb k0) Zh rfl) ⟨fun _ => Qj, trivial⟩ ?_
     rintro _ dV ⟨bD, rfl, cB, bE, bF⟩
     refine kG bF ?_
     obtain ⟨cC, bG, hm⟩ := Qc hm
     refine qz [] rfl (eC Qe8 rfl (Qfq bG)) ⟨fun _ => Qj, trivial⟩ ?_
     rintro _ dW ⟨rfl, aH⟩
     refine kG aH ?_
     have cD := (bE.gr aH)
     refine qz [(1, bD)] rfl (Qx Ql rfl rfl rfl cD rfl rfl) ⟨fun _ => Qj, trivial⟩ ?_
     rintro _ dX ⟨bH, bI⟩
     refine kM bI<|Qh ?_
     exact ⟨rfl, ⟨cC, bD⟩, Qf, hm, bH, (by omega), (((((Qz.gr ac).gr ad).gr bF).gr aH).md bI)⟩
   refine Zj<|qz [] rfl (Xh (cs := kb k0) Zh rfl) ⟨fun _ => Qj, trivial⟩ ?_
   rintro _ dY ⟨bJ, rfl, cE, bK, bL⟩
   refine kG bL ?_
   obtain ⟨dZ, bM, hm⟩ := Qc hm
   refine qz [] rfl (eC Qqi rfl (Qu3 bM)) ⟨fun _ => Qj, trivial⟩ ?_
   rintro _ d0 ⟨rfl, aI⟩
   refine kG aI ?_
   obtain ⟨cF, bN, hm⟩ := Qc hm
   refine qz [] rfl (eC Qe8 rfl (Qfq bN)) ⟨fun _ => Qj, trivial⟩ ?_
   rintro _ d1 ⟨rfl, aJ⟩
   refine kG aJ ?_
   have bO := ((bK.gr aI).gr aJ)
   refine qz [(1, bJ)] rfl (Qx Ql rfl rfl rfl bO rfl rfl) ⟨fun _ => Qj, trivial⟩ ?_
   rintro _ d2 ⟨bP, bQ⟩
   refine kM bQ<|Qh ?_
   exact ⟨rfl, ⟨cF, bJ⟩, Qf, hm, bP, (by omega), (((((Qz.gr ac).gr bL).gr aI).gr aJ).md bQ)⟩
 clear hm; rintro ⟨M, bq27⟩ d3 ⟨hm, ae, bW, U⟩
 unfold Qg6 at hm
 refine Qe<|Qe<|dw [([])] [] (.leaf [(0,10),(2,10),(3,10),(1,0),(4,10)]) ?_
 intro cG af de
 refine Zj ?_
 have bR := (ae.gr af)
 refine dh 0 rfl rfl (fun w hS => Qp Ql rfl (Bx.kp bR hS) rfl)<|dh 0 rfl rfl (fun w hS => Qb Bz rfl) ?_
 have cH := (((aa.kz E).kz U).gr af)
 refine dh 0 rfl rfl (fun w hS => Zy (vs := kb p2.Check) Ql rfl (Bx.kp cH hS) rfl rfl)<|qz [] rfl (eC Dt rfl (Td M (Xf 53#8) (Vy _) (Vx _) 0#64 _)) ⟨fun _ => Qj, trivial⟩ ?_
 rintro _ d4 ⟨rfl, V⟩
 refine kG V ?_
 have cI := ((Kp.refl ([]) cG).gr V)
 refine qh 0 rfl rfl cI (fun w hS => Gk (cf := kb) (a := Jk M (Xf 53#8) 0#64) (b := p2.Check) Dw rfl rfl rfl rfl (fun h => Hq h))<|Qa<|Xj rfl (fun c6 => ?_) (fun c6 => ?_)
 · replace hm := iT c6 hm
   refine qs 3 rfl<|qv rfl (Vz Vt) ?_
   have bS := Gr.trans af V
   have cJ := (((((((K.gr Y3).kz K8).gr Y8).kz s (Ke ((.inr Qj) : 1 = 0 ∨ f ≠ b4) ((.inr Qj) : 1 = 0 ∨ g ≠ b4))).kz E).kz U).gr bS)
   refine qe rfl (Qx Ql rfl rfl rfl cJ rfl rfl) ?_
   rintro _ d5 ⟨bT, cK⟩
   refine qm rfl<|qb ?_
   have cL := (((br.kz U).trans bS).md cK)
   cases hm
   refine ⟨_, _, rfl, Zb rfl (Xr Ql rfl bT rfl) (Qg rfl), ?_⟩
   exact ⟨rfl, cL⟩
 replace hm := iF c6 hm
 refine qu<|qs 3 rfl ?_
 have cM := (bR.gr V)
 refine qv rfl (Qp Ql rfl cM rfl) ?_
 have bU := Gr.trans af V
 have cN := (((((((K.gr Y3).kz K8).gr Y8).kz s (Ke ((.inr Qj) : 1 = 0 ∨ f ≠ b4) ((.inr Qj) : 1 = 0 ∨ g ≠ b4))).kz E).kz U).gr bU)
 refine qe rfl (Qx Ql rfl rfl rfl cN rfl rfl) ?_
 rintro _ d6 ⟨bV, cO⟩
 refine qm rfl<|Qa<|Qo ?_
 have cP := (((br.kz U).trans bU).md cO)
 cases hm
 refine ⟨_, _, rfl, Zb rfl (Xr Ql rfl bV rfl) (Qg rfl), ?_⟩
 exact ⟨rfl, cP⟩
end Go.Proofs.YtgdojjniakpadaaGreat.Mx
