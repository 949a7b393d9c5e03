/- Walks that follow mirrors: Ua. Printed by mx.py. -/
import Derived.Test.YtgdojjniakpadaaGreatZc
import Derived.Test.YtgdojjniakpadaaGreatZd
import Derived.Test.YtgdojjniakpadaaGreatZe
import Derived.Test.YtgdojjniakpadaaGreatChecked
set_option linter.unusedVariables false
set_option linter.unusedSimpArgs false
set_option maxRecDepth 100000
set_option maxHeartbeats 2000000
namespace Go.Proofs.YtgdojjniakpadaaGreat.Mx
open Go Go.RowKit Go.Sx
theorem Zw : Ky Tryz.prog 28 6 := fun _ => ⟨by kernel_rfl, by kernel_rfl⟩
theorem My : ZV Tryz.prog 290 (.agg [.int .u8 0, .int .i64 0, .int .i64 0].toArray) := fun _ => by kernel_rfl
theorem Yg : FA Tryz.prog 28 0 0 := fun _ _ _ => by kernel_rfl
theorem Xs : Yd Tryz.prog 5 := fun _ => ⟨by kernel_rfl, by kernel_rfl⟩
theorem Wu : FA Tryz.prog 28 1 1 := fun _ _ _ => by kernel_rfl
theorem Qv : Yd Tryz.prog 3 := fun _ => ⟨by kernel_rfl, by kernel_rfl⟩
theorem Xil : ZV Tryz.prog 28 (.agg [.int .u8 0, .int .i64 0, .int .i64 0, .int .u64 0, .int .u64 0, .int .u64 0].toArray) := fun _ => by kernel_rfl
theorem Ou : Ky Tryz.prog 26 3 := fun _ => ⟨by kernel_rfl, by kernel_rfl⟩
theorem Qwg : BS Tryz.prog 28 (fun i => [(0, 1), (1, 1), (2, 1), (3, 3)][i]?) [.int .u8 0, .int .i64 0, .int .i64 0, .int .u64 0, .int .u64 0, .int .u64 0] := Tv Tryz.underlying28 Xil ⟨rfl, (Xs).siz, rfl, (Qv).siz, rfl, (Qv).siz, rfl, (Ou).siz, trivial⟩
theorem Xm : Yd Tryz.prog 24 := fun _ => ⟨by kernel_rfl, by kernel_rfl⟩
theorem Qel : Wq Tryz.prog 1 24 [.i .u64] := Qmb Tryz.underlying24 Xm
theorem Qr6 : Wq Tryz.prog 2 26 [.i .u64, .i .u64, .i .u64] := Qen Tryz.underlying26 (by kernel_rfl) Ou (show Sw _ 1 _ _ _ from (Dv (ks1 := [.i .u64]) (ks2 := [.i .u64, .i .u64]) rfl (by simp) (Qel.up (by decide)) (Dv (ks1 := [.i .u64]) (ks2 := [.i .u64]) rfl (by simp) (Qel.up (by decide)) (Dv (ks1 := [.i .u64]) (ks2 := []) rfl (by simp) (Qel.up (by decide)) (Qeo _)))))
theorem Qem : Wq Tryz.prog 1 3 [.i .i64] := Qmb Tryz.underlying3 Qv
theorem Qr7 : Wq Tryz.prog 1 5 [.i .u8] := Qmb Tryz.underlying5 Xs
theorem Xao : Wq Tryz.prog 3 28 [.i .u8, .i .i64, .i .i64, .i .u64, .i .u64, .i .u64] := Qen Tryz.underlying28 (by kernel_rfl) Zw (show Sw _ 2 _ _ _ from (Dv (ks1 := [.i .u8]) (ks2 := [.i .i64, .i .i64, .i .u64, .i .u64, .i .u64]) rfl (by simp) (Qr7.up (by decide)) (Dv (ks1 := [.i .i64]) (ks2 := [.i .i64, .i .u64, .i .u64, .i .u64]) rfl (by simp) (Qem.up (by decide)) (Dv (ks1 := [.i .i64]) (ks2 := [.i .u64, .i .u64, .i .u64]) rfl (by simp) (Qem.up (by decide)) (Dv (ks1 := [.i .u64, .i .u64, .i .u64]) (ks2 := []) rfl (by simp) (Qr6.up (by decide)) (Qeo _))))))
theorem Xaw : Tt Tryz.prog 28 [.i .u8, .i .i64, .i .i64, .i .u64, .i .u64, .i .u64] := ⟨by kernel_rfl, Zw, 3, by decide, Xao⟩
theorem Qhj : BS Tryz.prog 290 (fun i => [(0, 1), (1, 1), (2, 1)][i]?) [.int .u8 0, .int .i64 0, .int .i64 0] := Tv Tryz.underlying290 My ⟨rfl, (Xs).siz, rfl, (Qv).siz, rfl, (Qv).siz, trivial⟩
theorem Vj : Ky Tryz.prog 290 3 := fun _ => ⟨by kernel_rfl, by kernel_rfl⟩
theorem Qeq : FA Tryz.prog 290 2 2 := fun _ _ _ => by kernel_rfl
theorem Qri : FA Tryz.prog 290 1 1 := fun _ _ _ => by kernel_rfl
theorem Qqb : En Tryz.prog 199 := fun _ _ => by kernel_rfl
theorem La : FA Tryz.prog 28 2 2 := fun _ _ _ => by kernel_rfl
theorem Wz : FA Tryz.prog 28 3 3 := fun _ _ _ => by kernel_rfl
theorem Xik : ZV Tryz.prog 26 (.agg [.int .u64 0, .int .u64 0, .int .u64 0].toArray) := fun _ => by kernel_rfl
theorem Qwf : BS Tryz.prog 26 (fun i => [(0, 1), (1, 1), (2, 1)][i]?) [.int .u64 0, .int .u64 0, .int .u64 0] := Tv Tryz.underlying26 Xik ⟨rfl, (Xm).siz, rfl, (Xm).siz, rfl, (Xm).siz, trivial⟩
theorem Xav : Tt Tryz.prog 26 [.i .u64, .i .u64, .i .u64] := ⟨by kernel_rfl, Ou, 2, by decide, Qr6⟩
theorem Qll : En Tryz.prog 177 := fun _ _ => by kernel_rfl
theorem Gl : ZV Tryz.prog 52 (.agg [.int .i64 0, .slice none 0 0, .int .u64 0, .int .u64 0].toArray) := fun _ => by kernel_rfl
theorem Wl : Ky Tryz.prog 171 2 := fun _ => ⟨by kernel_rfl, by kernel_rfl⟩
theorem Qhb : ZV Tryz.prog 171 (.agg [.int .i64 0, .int .i64 0].toArray) := fun _ => by kernel_rfl
theorem Wt : FA Tryz.prog 171 0 0 := fun _ _ _ => by kernel_rfl
theorem Vu : FA Tryz.prog 171 1 1 := fun _ _ _ => by kernel_rfl
theorem Qlw : En Tryz.prog 299 := fun _ _ => by kernel_rfl
theorem Qqp : En Tryz.prog 306 := fun _ _ => by kernel_rfl
theorem Et : FA Tryz.prog 290 0 0 := fun _ _ _ => by kernel_rfl
theorem Qxc : CV Tryz.prog 298 155 .u64 := fun _ _ _ => by kernel_rfl
theorem Qzp : En Tryz.prog 356 := fun _ _ => by kernel_rfl
theorem Ej : En Tryz.prog 352 := fun _ _ => by kernel_rfl
theorem Qly : En Tryz.prog 307 := fun _ _ => by kernel_rfl
theorem Qqq : En Tryz.prog 308 := fun _ _ => by kernel_rfl
theorem Qlx : En Tryz.prog 303 := fun _ _ => by kernel_rfl
theorem Qkk : ZV Tryz.prog 298 (.int .i64 0) := fun _ => by kernel_rfl
theorem Hb : Yd Tryz.prog 298 := fun _ => ⟨by kernel_rfl, by kernel_rfl⟩
theorem Qi5 : En Tryz.prog 302 := fun _ _ => by kernel_rfl
theorem Xd7 : Yd Tryz.prog 387 := fun _ => ⟨by kernel_rfl, by kernel_rfl⟩
theorem Qm0 : En Tryz.prog 353 := fun _ _ => by kernel_rfl
theorem Qzo : En Tryz.prog 354 := fun _ _ => by kernel_rfl
theorem Qz9 : En Tryz.prog 309 := fun _ _ => by kernel_rfl
theorem Qlq : En Tryz.prog 207 := fun _ _ => by kernel_rfl
theorem Qqd : En Tryz.prog 200 := fun _ _ => by kernel_rfl
theorem Hk : Yd Tryz.prog 48 := fun _ => ⟨by kernel_rfl, by kernel_rfl⟩
theorem Vk : Ky Tryz.prog 50 2 := fun _ => ⟨by kernel_rfl, by kernel_rfl⟩
theorem Da : BS Tryz.prog 52 (fun i => [(0, 1), (1, 1), (2, 2)][i]?) [.int .i64 0, .slice none 0 0, .int .u64 0, .int .u64 0] := Tv Tryz.underlying52 Gl ⟨rfl, (Qv).siz, rfl, (Hk).siz, rfl, (Vk).siz, trivial⟩
theorem Jc : Ky Tryz.prog 52 4 := fun _ => ⟨by kernel_rfl, by kernel_rfl⟩
theorem Qyk : En Tryz.prog 201 := fun _ _ => by kernel_rfl
theorem Qyl : En Tryz.prog 202 := fun _ _ => by kernel_rfl
theorem Qz7 : En Tryz.prog 301 := fun _ _ => by kernel_rfl
theorem Qn5 : Yd Tryz.prog 379 := fun _ => ⟨by kernel_rfl, by kernel_rfl⟩
theorem Qz8 : En Tryz.prog 304 := fun _ _ => by kernel_rfl
theorem Qdb : BS Tryz.prog 171 (fun i => [(0, 1), (1, 1)][i]?) [.int .i64 0, .int .i64 0] := Tv Tryz.underlying171 Qhb ⟨rfl, (Qv).siz, rfl, (Qv).siz, trivial⟩
theorem Qhe : ZV Tryz.prog 72 (.agg [.int .i64 0, .int .i64 0, .int .u8 0, .int .u8 0, .int .u8 0, .int .u8 0, .int .u8 0, .int .u8 0, .int .u8 0, .int .u8 0, .int .u8 0, .int .u8 0, .int .u8 0, .int .u8 0, .int .u8 0, .int .u8 0, .int .u8 0, .int .u8 0].toArray) := fun _ => by kernel_rfl
theorem Ql : Ky Tryz.prog 23 16 := fun _ => ⟨by kernel_rfl, by kernel_rfl⟩
theorem Qpb : BS Tryz.prog 72 (fun i => [(0, 1), (1, 1), (2, 16)][i]?) [.int .i64 0, .int .i64 0, .int .u8 0, .int .u8 0, .int .u8 0, .int .u8 0, .int .u8 0, .int .u8 0, .int .u8 0, .int .u8 0, .int .u8 0, .int .u8 0, .int .u8 0, .int .u8 0, .int .u8 0, .int .u8 0, .int .u8 0, .int .u8 0] := Tv Tryz.underlying72 Qhe ⟨rfl, (Qv).siz, rfl, (Qv).siz, rfl, (Ql).siz, trivial⟩
theorem Hs : Ky Tryz.prog 72 18 := fun _ => ⟨by kernel_rfl, by kernel_rfl⟩
theorem Qer : FA Tryz.prog 72 0 0 := fun _ _ _ => by kernel_rfl
theorem Zh : ZV Tryz.prog 23 (.agg [.int .u8 0, .int .u8 0, .int .u8 0, .int .u8 0, .int .u8 0, .int .u8 0, .int .u8 0, .int .u8 0, .int .u8 0, .int .u8 0, .int .u8 0, .int .u8 0, .int .u8 0, .int .u8 0, .int .u8 0, .int .u8 0].toArray) := fun _ => by kernel_rfl
theorem Qxd : CV Tryz.prog 298 24 .u64 := fun _ _ _ => by kernel_rfl
theorem Ty : En Tryz.prog 90 := fun _ _ => by kernel_rfl
theorem Qlp : En Tryz.prog 205 := fun _ _ => by kernel_rfl
theorem Qlo : En Tryz.prog 204 := fun _ _ => by kernel_rfl
theorem Qqo : En Tryz.prog 305 := fun _ _ => by kernel_rfl
theorem Qym : En Tryz.prog 203 := fun _ _ => by kernel_rfl
theorem Qb8 : FA Tryz.prog 72 2 2 := fun _ _ _ => by kernel_rfl
theorem Ho : FA Tryz.prog 52 1 1 := fun _ _ _ => by kernel_rfl
theorem Qpe : Pg Tryz.prog 48 1 72 18 [.int .i64 0, .int .i64 0, .int .u8 0, .int .u8 0, .int .u8 0, .int .u8 0, .int .u8 0, .int .u8 0, .int .u8 0, .int .u8 0, .int .u8 0, .int .u8 0, .int .u8 0, .int .u8 0, .int .u8 0, .int .u8 0, .int .u8 0, .int .u8 0] := Lv Tryz.underlying48 (Hs).siz Qhe rfl rfl (by kernel_rfl)
theorem Qhh : Dk Tryz.prog 48 72 18 32 := Fb Tryz.underlying48 rfl (by kernel_rfl)
theorem Qz6 : En Tryz.prog 300 := fun _ _ => by kernel_rfl
theorem Qe4 : En Tryz.prog 192 := fun _ _ => by kernel_rfl
theorem Qyg : En Tryz.prog 194 := fun _ _ => by kernel_rfl
theorem Xim : ZV Tryz.prog 3 (.int .i64 0) := fun _ => by kernel_rfl
theorem Qpc : Pg Tryz.prog 31 1 3 1 [.int .i64 0] := Lv Tryz.underlying31 (Qv).siz Xim rfl rfl (by kernel_rfl)
theorem Qp1 : Dk Tryz.prog 31 3 1 8 := Fb Tryz.underlying31 rfl (by kernel_rfl)
theorem Qlz : En Tryz.prog 345 := fun _ _ => by kernel_rfl
theorem Qku : Pg Tryz.prog 202 1 171 2 [.int .i64 0, .int .i64 0] := Lv Tryz.underlying202 (Wl).siz Qhb rfl rfl (by kernel_rfl)
theorem Qkn : Dk Tryz.prog 202 171 2 16 := Fb Tryz.underlying202 rfl (by kernel_rfl)
theorem Qqj : En Tryz.prog 280 := fun _ _ => by kernel_rfl
theorem Qlt : En Tryz.prog 281 := fun _ _ => by kernel_rfl
theorem Qzi : En Tryz.prog 346 := fun _ _ => by kernel_rfl
theorem Qzj : En Tryz.prog 347 := fun _ _ => by kernel_rfl
theorem Qqk : En Tryz.prog 282 := fun _ _ => by kernel_rfl
theorem Qz0 : En Tryz.prog 279 := fun _ _ => by kernel_rfl
theorem Qq5 : En Tryz.prog 179 := fun _ _ => by kernel_rfl
theorem Qz1 : En Tryz.prog 293 := fun _ _ => by kernel_rfl
theorem Ye : CV Tryz.prog 3 24 .u64 := fun _ _ _ => by kernel_rfl
theorem Dt : En Tryz.prog 103 := fun _ _ => by kernel_rfl
theorem Qzs : En Tryz.prog 375 := fun _ _ => by kernel_rfl
theorem Qqt : En Tryz.prog 348 := fun _ _ => by kernel_rfl
theorem Qql : En Tryz.prog 288 := fun _ _ => by kernel_rfl
theorem Qq6 : En Tryz.prog 181 := fun _ _ => by kernel_rfl
theorem Qyh : En Tryz.prog 195 := fun _ _ => by kernel_rfl
theorem Qpr {p0 r} (hm : Qad p0 = some r) {w : World} :
    Calls Tryz.prog 199 [.agg (Qs.cs p0).toArray].toArray w fun e w' => ∃ v, e = .returned v ∧ (v = .tuple [.agg (Xv.cs r.1).toArray, .bool r.2].toArray ∧ Gr w w') := by
 unfold Qad at hm
 refine Xe 51 Tryz.func199 rfl rfl rfl<|qs 3 rfl<|qe rfl (Qy (cs := Qs.cs p0) rfl rfl) ?_
 rintro _ w1 ⟨b1, rfl, y, f, G1⟩
 have C := f.lt
 refine qe rfl (Xh (cs := Xv.cs (Xv.mk 0#8 0 0)) My rfl) ?_
 rintro _ w2 ⟨b2, rfl, z, g, G2⟩
 have D := g.lt
 refine qm rfl<|Qa<|Qe ?_
 have X5 := (((Gr.refl w).trans G1).trans G2)
 refine qj (β := Bool) (rg 5 27) (fun a1 => [(31, .bool a1)]) (fun a1 wr => (Bq p0 a1 = some r) ∧ Kz [] w2 wr) ?_ ?_
 · refine qg 27 rfl<|qv rfl (Qb Yg rfl) ?_
   have d := (f.gr G2)
   refine qv rfl (Qd (v := bv p0.Kind) Xs rfl d rfl)<|qv rfl (Qh6 (p := p0.Kind) (q := 1#8) rfl rfl)<|qp rfl (Qm rfl) (fun c3 => ?_) (fun c3 => ?_)
   · replace hm := iT c3 hm
     refine qk rfl<|qk rfl<|qk rfl<|qm rfl<|qm rfl<|qk rfl<|qk rfl<|qk rfl<|qm rfl<|qm rfl<|qk rfl<|qk rfl<|qk rfl<|qm rfl<|qm rfl<|qk rfl<|qk rfl<|qk rfl<|qk rfl<|qk rfl<|qk rfl<|qk rfl<|qm rfl<|Qh ?_
     exact ⟨rfl, true, Qf, hm, Qz⟩
   replace hm := iF c3 hm
   refine qv rfl (Qb Yg rfl)<|qv rfl (Qd (v := bv p0.Kind) Xs rfl d rfl)<|qv rfl (Xi0 (p := p0.Kind) (q := 3#8) rfl rfl)<|qm rfl<|qp rfl (Qm rfl) (fun c4 => ?_) (fun c4 => ?_)
   · replace hm := iT c4 hm
     refine qk rfl<|qk rfl<|qk rfl<|qm rfl<|qm rfl<|qk rfl<|qk rfl<|qk rfl<|qm rfl<|qm rfl<|qk rfl<|qk rfl<|qk rfl<|qk rfl<|qk rfl<|qk rfl<|qk rfl<|qm rfl<|Qh ?_
     exact ⟨rfl, true, Qf, hm, Qz⟩
   replace hm := iF c4 hm
   refine qv rfl (Qb Wu rfl)<|qv rfl (Qd (v := .int .i64 p0.Depth) Qv rfl d rfl)<|qv rfl (Zc (a := p0.Depth) (b := 0) rfl rfl)<|qm rfl<|qp rfl (Qm rfl) (fun c5 => ?_) (fun c5 => ?_)
   · replace hm := iT c5 hm
     refine qk rfl<|qk rfl<|qk rfl<|qm rfl<|qm rfl<|qk rfl<|qk rfl<|qk rfl<|qk rfl<|qk rfl<|qk rfl<|qk rfl<|qm rfl<|Qh ?_
     exact ⟨rfl, true, Qf, hm, Qz⟩
   replace hm := iF c5 hm
   refine qv rfl (Qb Wu rfl)<|qv rfl (Qd (v := .int .i64 p0.Depth) Qv rfl d rfl)<|qv rfl (Va (a := p0.Depth) (b := 6) rfl rfl)<|qm rfl<|qp rfl (Qm rfl) (fun c6 => ?_) (fun c6 => ?_)
   · replace hm := iT c6 hm
     refine qk rfl<|qk rfl<|qk rfl<|qk rfl<|qk rfl<|qk rfl<|qk rfl<|qm rfl<|Qh ?_
     exact ⟨rfl, true, Qf, hm, Qz⟩
   replace hm := iF c6 hm
   refine qv rfl (Qp Zw rfl d rfl)<|qv rfl (Qb Yg rfl)<|qv rfl (Qd (v := bv p0.Kind) Xs rfl d rfl)<|qv rfl (Qb Wu rfl)<|qv rfl (Qd (v := .int .i64 p0.Depth) Qv rfl d rfl)<|qv rfl (Zv (cs := Qs.cs (Qs.mk p0.Kind p0.Depth 0 (Ko.mk 0#64 0#64 0#64))) Qwg rfl rfl)<|qv rfl (Gk (cf := Qs.cs) (a := p0) (b := (Qs.mk p0.Kind p0.Depth 0 (Ko.mk 0#64 0#64 0#64))) Xaw rfl rfl rfl rfl (fun h => Qs.cs_inj h))<|qm rfl<|Qh ?_
   exact ⟨rfl, (decide (p0 ≠ (Qs.mk p0.Kind p0.Depth 0 (Ko.mk 0#64 0#64 0#64)))), Qf, hm, Qz⟩
 clear hm; rintro a1 w3 ⟨hm, K3⟩
 have z6 := K3.size
 unfold Bq at hm
 refine Xj rfl (fun c1 => ?_) (fun c1 => ?_)
 · replace hm := Xx c1 hm
   refine qs 3 rfl<|qv rfl (Zv (cs := Xv.cs (Xv.mk 0#8 0 0)) Qhj rfl rfl) ?_
   have B7 := (g.kz K3)
   refine qe rfl (Qx Vj rfl rfl rfl B7 rfl rfl) ?_
   rintro _ w4 ⟨l, M4⟩
   refine qm rfl<|qb ?_
   have X9 := ((X5.kz K3).md M4)
   cases hm
   refine ⟨_, _, rfl, Zb rfl (Xr Vj rfl l rfl) (Qg rfl), ?_⟩
   exact ⟨rfl, X9⟩
 replace hm := Xw c1 hm
 refine qu<|qs 7 rfl<|qv rfl (Qb Yg rfl) ?_
 have j := ((f.gr G2).kz K3)
 refine qv rfl (Qd (v := bv p0.Kind) Xs rfl j rfl)<|qv rfl (Qb Wu rfl)<|qv rfl (Qd (v := .int .i64 p0.Depth) Qv rfl j rfl)<|qv rfl (Zv (cs := Xv.cs (Xv.mk p0.Kind p0.Depth 1)) Qhj rfl rfl)<|qe rfl (Xh (cs := Xv.cs (Xv.mk 0#8 0 0)) My rfl) ?_
 rintro _ w5 ⟨b5, rfl, A, m, G5⟩
 refine qe rfl (Qx Vj rfl rfl rfl m rfl rfl) ?_
 rintro _ w6 ⟨n, M6⟩
 refine Qa<|Qe<|Xi ?_
 have o := (((X5.kz K3).trans G5).md M6)
 refine Zq (α := Nat × Int) (rg 38 12) (fun ⟨n2, a3⟩ => []) (fun ⟨n2, a3⟩ wr => (Qr (Uz p0) n2 a3 = some r) ∧ Bx wr b5 290 (Xv.cs (Xv.mk p0.Kind p0.Depth a3)) ∧ Kz [(1, b5)] w6 wr) (fun ⟨n2, a3⟩ => n2) ⟨Xb, 1⟩ ?_ ?_ ?_
 · exact Qf
 · exact ⟨hm, n, Kz.refl _ _⟩
 clear hm; rintro ⟨n2, a3⟩ w7 ⟨hm, c, K7⟩
 have hb := Zx hm; clear hm; obtain ⟨n2, rfl, hm⟩ := hb
 generalize i : Qr (Uz p0) n2 = B at hm
 unfold Uz at hm
 try dsimp only at hm
 refine Qe<|qs 8 rfl<|qv rfl (Qb Qeq rfl)<|qv rfl (Qd (v := .int .i64 a3) Qv rfl c rfl)<|qv rfl (Qb Qeq rfl)<|qv rfl (Qd (v := .int .i64 a3) Qv rfl c rfl)<|qv rfl (Wa (k := .i64) (a := a3) (b := a3) rfl rfl)<|qv rfl (Qb Qri rfl)<|qv rfl (Qd (v := .int .i64 p0.Depth) Qv rfl c rfl)<|qv rfl (Zc (a := Qi (a3 * a3)) (b := p0.Depth) rfl rfl)<|Qa<|Xj rfl (fun c2 => ?_) (fun c2 => ?_)
 · replace hm := iT c2 hm
   refine qu<|Xi<|qg 5 rfl<|qv rfl (Qb Qeq rfl)<|qv rfl (Qd (v := .int .i64 a3) Qv rfl c rfl)<|qv rfl (Zg (k := .i64) (a := a3) (b := 1) rfl rfl)<|qv rfl (Qb Qeq rfl)<|qe rfl (Hn (cs' := Xv.cs (Xv.mk p0.Kind p0.Depth (Qi (a3 + 1)))) (Qv).siz rfl rfl rfl c rfl rfl) ?_
   rintro _ w8 ⟨s, M8⟩
   refine Qh<|Xy ?_
   have K_18 : Kz [(1, b5)] w6 w8 := (K7.md M8)
   subst i
   exact ⟨rfl, ⟨n2, Qi (a3 + 1)⟩, Qf, ⟨hm, s, K_18⟩, Nat.lt_succ_self _⟩
 replace hm := iF c2 hm
 refine Zl<|Xk<|Xk<|Zk<|Xl<|qs 3 rfl<|qv rfl (Qp Vj rfl c rfl) ?_
 have t := ((((g.kz K3).gr G5).md M6).kz K7)
 refine qe rfl (Qx Vj rfl rfl rfl t rfl rfl) ?_
 rintro _ w9 ⟨u, M9⟩
 refine qm rfl<|Qa<|Qo ?_
 have x := ((o.kz K7).md M9)
 cases hm
 refine ⟨_, _, rfl, Zb rfl (Xr Vj rfl u rfl) (Qg rfl), ?_⟩
 exact ⟨rfl, x⟩
theorem Qky {p0 r} (hm : Bn p0 = some r) {w : World} :
    Calls Tryz.prog 128 [.agg (Qs.cs p0).toArray].toArray w fun e w' => ∃ v, e = .returned v ∧ (v = .int .i64 r ∧ Gr w w') := by
 unfold Bn at hm
 refine Xe 12 Tryz.func128 rfl rfl rfl<|qs 2 rfl<|qe rfl (Qy (cs := Qs.cs p0) rfl rfl) ?_
 rintro _ w1 ⟨b1, rfl, d, a, G1⟩
 have g := a.lt
 refine qm rfl<|Qa<|Qe<|qs 8 rfl<|qv rfl (Qp Zw rfl a rfl) ?_
 obtain ⟨x1, b, hm⟩ := Qc hm
 refine qe rfl (eC Qqb rfl (Qpr b)) ?_
 rintro _ w2 ⟨rfl, G2⟩
 have z3 := G2.size
 refine qm rfl<|qm rfl<|qm rfl<|qe rfl (Xh (cs := Xv.cs (Xv.mk 0#8 0 0)) My rfl) ?_
 rintro _ w3 ⟨b3, rfl, f, c, G3⟩
 refine qe rfl (Qx Vj rfl rfl rfl c rfl rfl) ?_
 rintro _ w4 ⟨h, M4⟩
 refine qm rfl<|qd 2 rfl<|qm rfl<|qv rfl (Jb rfl)<|Qa<|Xj rfl (fun c1 => ?_) (fun c1 => ?_)
 · replace hm := Xx c1 hm
   refine qs 1 rfl<|qm rfl<|qb ?_
   have X7 := (((((Gr.refl w).trans G1).trans G2).trans G3).md M4)
   cases hm
   refine ⟨_, _, rfl, Qt rfl (Qg rfl), ?_⟩
   exact ⟨rfl, X7⟩
 replace hm := Xw c1 hm
 refine qu<|qs 1 rfl<|qm rfl<|Qa<|Qo ?_
 have X8 := (((((Gr.refl w).trans G1).trans G2).trans G3).md M4)
 cases hm
 refine ⟨_, _, rfl, Qt rfl (Qg rfl), ?_⟩
 exact ⟨rfl, X8⟩
theorem Qnt {p0 r} (hm : Ib p0 = some r) {w : World} :
    Calls Tryz.prog 177 [.agg (Qs.cs p0).toArray].toArray w fun e w' => ∃ v, e = .returned v ∧ (v = .bool r ∧ Gr w w') := by
 unfold Ib at hm
 refine Xe 32 Tryz.func177 rfl rfl rfl<|qs 2 rfl<|qe rfl (Qy (cs := Qs.cs p0) rfl rfl) ?_
 rintro _ w1 ⟨b1, rfl, d, c, G1⟩
 refine qm rfl<|qd 30 rfl<|qv rfl (Qb Yg rfl)<|qv rfl (Qd (v := bv p0.Kind) Xs rfl c rfl)<|qv rfl (Qvg (p := p0.Kind) (q := 1#8) rfl rfl)<|Jh rfl (Qm rfl) (fun c1 => ?_) (fun c1 => ?_)
 · replace hm := iF c1 hm
   refine qk rfl<|qk rfl<|qk rfl<|qm rfl<|qm rfl<|qk rfl<|qk rfl<|qk rfl<|qm rfl<|qm rfl<|qk rfl<|qk rfl<|qk rfl<|qm rfl<|qm rfl<|qk rfl<|qk rfl<|qk rfl<|qm rfl<|qm rfl<|qk rfl<|qk rfl<|qk rfl<|qk rfl<|qm rfl ?_
   refine qm rfl<|Qa<|Qo ?_
   have X8 := ((Gr.refl w).trans G1)
   cases hm
   refine ⟨_, _, rfl, Qt rfl (Qg rfl), ?_⟩
   exact ⟨rfl, X8⟩
 replace hm := iT c1 hm
 refine qv rfl (Qb Yg rfl)<|qv rfl (Qd (v := bv p0.Kind) Xs rfl c rfl)<|qv rfl (Qon (p := p0.Kind) (q := 3#8) rfl rfl)<|qm rfl<|Jh rfl (Qm rfl) (fun c2 => ?_) (fun c2 => ?_)
 · replace hm := iF c2 hm
   refine qk rfl<|qk rfl<|qk rfl<|qm rfl<|qm rfl<|qk rfl<|qk rfl<|qk rfl<|qm rfl<|qm rfl<|qk rfl<|qk rfl<|qk rfl<|qm rfl<|qm rfl<|qk rfl<|qk rfl<|qk rfl<|qk rfl<|qm rfl<|qm rfl<|Qa<|Qo ?_
   have X7 := ((Gr.refl w).trans G1)
   cases hm
   refine ⟨_, _, rfl, Qt rfl (Qg rfl), ?_⟩
   exact ⟨rfl, X7⟩
 replace hm := iT c2 hm
 refine qv rfl (Qb Wu rfl)<|qv rfl (Qd (v := .int .i64 p0.Depth) Qv rfl c rfl)<|qv rfl (Kl (a := p0.Depth) (b := 0) rfl rfl)<|qm rfl<|Jh rfl (Qm rfl) (fun c3 => ?_) (fun c3 => ?_)
 · replace hm := iF c3 hm
   refine qk rfl<|qk rfl<|qk rfl<|qm rfl<|qm rfl<|qk rfl<|qk rfl<|qk rfl<|qm rfl<|qm rfl<|qk rfl<|qk rfl<|qk rfl<|qk rfl<|qm rfl<|qm rfl<|Qa<|Qo ?_
   have X6 := ((Gr.refl w).trans G1)
   cases hm
   refine ⟨_, _, rfl, Qt rfl (Qg rfl), ?_⟩
   exact ⟨rfl, X6⟩
 replace hm := iT c3 hm
 refine qv rfl (Qb Wu rfl)<|qv rfl (Qd (v := .int .i64 p0.Depth) Qv rfl c rfl)<|qv rfl (Pf (a := p0.Depth) (b := 6) rfl rfl)<|qm rfl<|Jh rfl (Qm rfl) (fun c4 => ?_) (fun c4 => ?_)
 · replace hm := iF c4 hm
   refine qk rfl<|qk rfl<|qk rfl<|qm rfl<|qm rfl<|qk rfl<|qk rfl<|qk rfl<|qk rfl<|qm rfl<|qm rfl<|Qa<|Qo ?_
   have X5 := ((Gr.refl w).trans G1)
   cases hm
   refine ⟨_, _, rfl, Qt rfl (Qg rfl), ?_⟩
   exact ⟨rfl, X5⟩
 replace hm := iT c4 hm
 refine qv rfl (Qb La rfl)<|qv rfl (Qd (v := .int .i64 p0.Degree) Qv rfl c rfl)<|qv rfl (Jr (a := p0.Degree) (b := 0) rfl rfl)<|qm rfl<|Jh rfl (Qm rfl) (fun c5 => ?_) (fun c5 => ?_)
 · replace hm := iF c5 hm
   refine qk rfl<|qk rfl<|qk rfl<|qk rfl<|qm rfl<|qm rfl<|Qa<|Qo ?_
   have X4 := ((Gr.refl w).trans G1)
   cases hm
   refine ⟨_, _, rfl, Qt rfl (Qg rfl), ?_⟩
   exact ⟨rfl, X4⟩
 replace hm := iT c5 hm
 refine qv rfl (Qb Wz rfl)<|qv rfl (Zy (vs := Ko.cs p0.Group) Ou rfl c rfl rfl)<|qv rfl (Zv (cs := Ko.cs (Ko.mk 0#64 0#64 0#64)) Qwf rfl rfl)<|qv rfl (Ss (cf := Ko.cs) (a := p0.Group) (b := (Ko.mk 0#64 0#64 0#64)) Xav rfl rfl rfl rfl (fun h => Ko.cs_inj h))<|qm rfl<|qm rfl<|Qa<|Qo ?_
 have X3 := ((Gr.refl w).trans G1)
 cases hm
 refine ⟨_, _, rfl, Qt rfl (Qg rfl), ?_⟩
 exact ⟨rfl, X3⟩
theorem Xek {p0 r} (hm : Qft p0 = some r) {w : World} :
    Calls Tryz.prog 172 [.agg (Qs.cs p0).toArray].toArray w fun e w' => ∃ v, e = .returned v ∧ (v = .int .i64 r ∧ Gr w w') := by
 unfold Qft at hm
 refine Xe 6 Tryz.func172 rfl rfl rfl<|qs 2 rfl<|qe rfl (Qy (cs := Qs.cs p0) rfl rfl) ?_
 rintro _ w1 ⟨b1, rfl, c, a, G1⟩
 refine qm rfl<|Qa<|Qe<|qs 3 rfl<|qv rfl (Qp Zw rfl a rfl) ?_
 obtain ⟨x1, b, hm⟩ := Qc hm
 refine qe rfl (eC Qll rfl (Qnt b)) ?_
 rintro _ w2 ⟨rfl, G2⟩
 refine qv rfl (Jb rfl)<|Qa<|Xj rfl (fun c1 => ?_) (fun c1 => ?_)
 · replace hm := Xx c1 hm
   refine qs 1 rfl<|qm rfl<|qb ?_
   have X4 := (((Gr.refl w).trans G1).trans G2)
   cases hm
   refine ⟨_, _, rfl, Qt rfl (Qg rfl), ?_⟩
   exact ⟨rfl, X4⟩
 replace hm := Xw c1 hm
 refine qu<|qs 1 rfl<|qm rfl<|Qa<|Qo ?_
 have X5 := (((Gr.refl w).trans G1).trans G2)
 cases hm
 refine ⟨_, _, rfl, Qt rfl (Qg rfl), ?_⟩
 exact ⟨rfl, X5⟩
theorem Ql7 {p0 r} (hm : Eb p0 = some r) {w : World} :
    Calls Tryz.prog 299 [.agg (Xv.cs p0).toArray].toArray w fun e w' => ∃ v, e = .returned v ∧ (v = .int .i64 r ∧ Gr w w') := by
 unfold Eb at hm
 refine Xe 6 Tryz.func299 rfl rfl rfl<|qs 2 rfl<|qe rfl (Qy (cs := Xv.cs p0) rfl rfl) ?_
 rintro _ w1 ⟨b1, rfl, d, c, G1⟩
 refine qm rfl<|qd 4 rfl<|qv rfl (Qb Qri rfl)<|qv rfl (Qd (v := .int .i64 p0.depth) Qv rfl c rfl) ?_
 obtain ⟨nn1, hnn1, hm⟩ := Qc hm
 refine qv rfl (Qh7 (a := 1) (b := p0.depth) rfl rfl hnn1)<|qm rfl<|Qa<|Qo ?_
 have X3 := ((Gr.refl w).trans G1)
 cases hm
 refine ⟨_, _, rfl, Qt rfl (Qg rfl), ?_⟩
 exact ⟨rfl, X3⟩
theorem Qps {p0 p1 r} (hm : Qaf p0 p1 = some r) {w : World} :
    Calls Tryz.prog 306 [.agg (Xv.cs p0).toArray, .int .i64 p1].toArray w fun e w' => ∃ v, e = .returned v ∧ (v = .bool r ∧ Gr w w') := by
 unfold Qaf at hm
 refine Xe 14 Tryz.func306 rfl rfl rfl<|qs 2 rfl<|qe rfl (Qy (cs := Xv.cs p0) rfl rfl) ?_
 rintro _ w1 ⟨b1, rfl, f, c, G1⟩
 refine qm rfl<|qd 10 rfl<|qm rfl<|qv rfl (Kl (a := p1) (b := 1) rfl rfl)<|Jh rfl (Qm rfl) (fun c1 => ?_) (fun c1 => ?_)
 · replace hm := iF c1 hm
   refine qk rfl<|qk rfl<|qk rfl<|qk rfl<|qk rfl<|qm rfl<|qm rfl<|Qa<|Qo ?_
   have X5 := ((Gr.refl w).trans G1)
   cases hm
   refine ⟨_, _, rfl, Qt rfl (Qg rfl), ?_⟩
   exact ⟨rfl, X5⟩
 replace hm := iT c1 hm
 refine qm rfl<|qv rfl (Qp Vj rfl c rfl) ?_
 obtain ⟨x1, d, hm⟩ := Qc hm
 refine qe rfl (eC Qlw rfl (Ql7 d)) ?_
 rintro _ w2 ⟨rfl, G2⟩
 refine qv rfl (Wa (k := .i64) (a := 2) (b := x1) rfl rfl)<|qv rfl (Zc (a := p1) (b := Qi (2 * x1)) rfl rfl)<|qm rfl<|qm rfl<|Qa<|Qo ?_
 have X4 := (((Gr.refl w).trans G1).trans G2)
 cases hm
 refine ⟨_, _, rfl, Qt rfl (Qg rfl), ?_⟩
 exact ⟨rfl, X4⟩
theorem Uw {p0 r} (hm : Nv p0 = some r) {w : World} :
    Calls Tryz.prog 352 [.int .i64 p0].toArray w fun e w' => ∃ v, e = .returned v ∧ (v = .int .i64 r ∧ Gr w w') := by
 unfold Nv at hm
 refine Xe 7 Tryz.func352 rfl rfl rfl<|qs 1 rfl<|qm rfl<|qd 5 rfl<|qm rfl<|qv rfl (Yb Qxc rfl)<|qe rfl (eC Qzp rfl (Xck (un (wd p0)) (Ba _) (by have := Qk5 (wd p0); omega) _)) ?_
 rintro _ w1 ⟨rfl, G1⟩
 refine qv rfl (Vn (k := .i64) (a := lg (un (wd p0))) (b := 1) rfl rfl)<|qm rfl<|Qa<|Qo ?_
 have X2 := ((Gr.refl w).trans G1)
 cases hm
 refine ⟨_, _, rfl, Qt rfl (Qg rfl), ?_⟩
 exact ⟨rfl, X2⟩
theorem Ql2 {p0 p1 r} (hm : Gu p0 p1 = some r) {w : World} :
    Calls Tryz.prog 307 [.int .i64 p0, .int .i64 p1].toArray w fun e w' => ∃ v, e = .returned v ∧ (v = .bool r ∧ Gr w w') := by
 unfold Gu at hm
 refine Xe 27 Tryz.func307 rfl rfl rfl<|qs 1 rfl<|qm rfl<|Qa<|Qe<|qj (β := Bool) (rg 5 13) (fun a1 => [(17, .bool a1)]) (fun a1 wr => (Uv p0 p1 a1 = some r) ∧ Kz [] w wr) ?_ ?_
 · refine qg 13 rfl<|qm rfl<|qv rfl (Zc (a := p0) (b := 1) rfl rfl)<|qp rfl (Qm rfl) (fun c2 => ?_) (fun c2 => ?_)
   · replace hm := iT c2 hm
     refine qk rfl<|qk rfl<|qm rfl<|qm rfl<|qk rfl<|qk rfl<|qk rfl<|qk rfl<|qk rfl<|qm rfl<|Qh ?_
     exact ⟨rfl, true, Qf, hm, Qz⟩
   replace hm := iF c2 hm
   refine qm rfl<|qv rfl (Zc (a := p1) (b := 1) rfl rfl)<|qm rfl<|qp rfl (Qm rfl) (fun c3 => ?_) (fun c3 => ?_)
   · replace hm := iT c3 hm
     refine qk rfl<|qk rfl<|qk rfl<|qk rfl<|qk rfl<|qm rfl<|Qh ?_
     exact ⟨rfl, true, Qf, hm, Qz⟩
   replace hm := iF c3 hm
   refine qm rfl ?_
   obtain ⟨x5, c, hm⟩ := Qc hm
   refine qe rfl (eC Ej rfl (Uw c)) ?_
   rintro _ w4 ⟨rfl, G4⟩
   refine qm rfl ?_
   obtain ⟨x6, d, hm⟩ := Qc hm
   refine qe rfl (eC Ej rfl (Uw d)) ?_
   rintro _ w5 ⟨rfl, G5⟩
   refine qv rfl (Zc (a := x5) (b := x6) rfl rfl)<|qm rfl<|Qh ?_
   exact ⟨rfl, (decide (x5 < x6)), Qf, hm, ((Qz.gr G4).gr G5)⟩
 clear hm; rintro a1 w1 ⟨hm, K1⟩
 unfold Uv at hm
 refine Xj rfl (fun c1 => ?_) (fun c1 => ?_)
 · replace hm := Xx c1 hm
   refine qs 1 rfl<|qm rfl<|qb ?_
   have X2 := ((Gr.refl w).kz K1)
   cases hm
   refine ⟨_, _, rfl, Qt rfl (Qg rfl), ?_⟩
   exact ⟨rfl, X2⟩
 replace hm := Xw c1 hm
 refine qu<|qs 10 rfl<|qm rfl<|qm rfl ?_
 obtain ⟨x2, f, hm⟩ := Qc hm
 refine qe rfl (eC Ej rfl (Uw f)) ?_
 rintro _ w2 ⟨rfl, G2⟩
 refine qm rfl ?_
 obtain ⟨x3, g, hm⟩ := Qc hm
 refine qe rfl (eC Ej rfl (Uw g)) ?_
 rintro _ w3 ⟨rfl, G3⟩
 refine qv rfl (Vn (k := .i64) (a := x2) (b := x3) rfl rfl) ?_
 obtain ⟨nn4, hnn4, hm⟩ := Qc hm
 refine qv rfl (Qor (a := p0) (b := (Qi (x2 - x3))) rfl rfl hnn4)<|qm rfl<|qv rfl (Jr (a := Oa p0 nn4) (b := p1) rfl rfl)<|qm rfl<|Qa<|Qo ?_
 have X5 := ((((Gr.refl w).kz K1).trans G2).trans G3)
 cases hm
 refine ⟨_, _, rfl, Qt rfl (Qg rfl), ?_⟩
 exact ⟨rfl, X5⟩
theorem Qpt {p0 p1 r} (hm : Ec p0 p1 = some r) {w : World} :
    Calls Tryz.prog 308 [.agg (Xv.cs p0).toArray, .int .i64 p1].toArray w fun e w' => ∃ v, e = .returned v ∧ (v = .bool r ∧ Gr w w') := by
 unfold Ec at hm
 refine Xe 11 Tryz.func308 rfl rfl rfl<|qs 2 rfl<|qe rfl (Qy (cs := Xv.cs p0) rfl rfl) ?_
 rintro _ w1 ⟨b1, rfl, g, c, G1⟩
 refine qm rfl<|Qa<|Qe<|dw [([])] [] (.leaf [(0,10),(2,10),(3,10),(1,0),(4,10),(5,10),(6,10)]) ?_
 intro w2 G2 h
 refine Zj<|dm 0 rfl rfl<|dh 0 rfl rfl (fun w hS => Qb Qeq rfl) ?_
 have B3 := (c.gr G2)
 refine dh 0 rfl rfl (fun w hS => Qd (v := .int .i64 p0.stride) Qv rfl (Bx.kp B3 hS) rfl) ?_
 obtain ⟨x1, d, hm⟩ := Qc hm
 refine qz [] rfl (eC Ej rfl (Uw d)) ⟨fun _ => Qj, trivial⟩ ?_
 rintro _ w3 ⟨rfl, G3⟩
 refine kG G3 ?_
 obtain ⟨x2, f, hm⟩ := Qc hm
 have S5 := ((Kp.refl ([]) w2).gr G3)
 refine qh 0 rfl rfl S5 (fun w hS => Hm (a := x1) (b := p0.stride) rfl rfl f)<|qh 0 rfl rfl S5 (fun w hS => Jr (a := x2) (b := 0) rfl rfl)<|dn 0 rfl rfl S5<|Qa<|Qo ?_
 have X6 := ((((Gr.refl w).trans G1).trans G2).trans G3)
 cases hm
 refine ⟨_, _, rfl, Qt rfl (Qg rfl), ?_⟩
 exact ⟨rfl, X6⟩
theorem Ql5 {p0 p1 r} (hm : Ux p0 p1 = some r) {w : World} :
    Calls Tryz.prog 303 [.int .i64 p0, .int .i64 p1].toArray w fun e w' => ∃ v, e = .returned v ∧ (∃ bc0 bc1, v = .func (.func 353) #[] [.pointer (some ⟨bc0, 0, none⟩), .pointer (some ⟨bc1, 0, none⟩)].toArray ∧ Bx w' bc0 298 ([.int .i64 r.1]) ∧ (w.heap.size ≤ bc0) ∧ Bx w' bc1 298 ([.int .i64 r.2]) ∧ (w.heap.size ≤ bc1) ∧ Gr w w') := by
 unfold Ux at hm
 refine Xe 6 Tryz.func303 rfl rfl rfl<|qs 3 rfl<|qe rfl (Qy (cs := [.int .i64 p0]) rfl rfl) ?_
 rintro _ w1 ⟨b1, rfl, c, a, G1⟩
 have f := a.lt
 refine qe rfl (Qy (cs := [.int .i64 p1]) rfl rfl) ?_
 rintro _ w2 ⟨b2, rfl, d, b, G2⟩
 refine qm rfl<|qd 2 rfl<|qv rfl (Mv rfl rfl)<|qm rfl<|Qa<|Qo ?_
 have B5 := (a.gr G2)
 have X6 := (((Gr.refl w).trans G1).trans G2)
 cases hm
 refine ⟨_, _, rfl, Qt rfl (Qg rfl), ?_⟩
 exact ⟨b1, b2, rfl, B5, by omega, b, by omega, X6⟩
theorem Qhs {p0 p1 r} (hm : Bp p0 p1 = some r) {w : World} :
    Calls Tryz.prog 302 [.int .i64 p0, .int .i64 p1].toArray w fun e w' => ∃ v, e = .returned v ∧ (v = .int .i64 r ∧ Gr w w') := by
 unfold Bp at hm
 refine Xe 13 Tryz.func302 rfl rfl rfl<|qs 1 rfl<|qm rfl<|qd 9 rfl<|qm rfl<|qm rfl ?_
 obtain ⟨x1, c, hm⟩ := Qc hm
 refine qe rfl (eC Ej rfl (Uw c)) ?_
 rintro _ w1 ⟨rfl, G1⟩
 refine qm rfl ?_
 obtain ⟨x2, d, hm⟩ := Qc hm
 refine qe rfl (eC Ej rfl (Uw d)) ?_
 rintro _ w2 ⟨rfl, G2⟩
 refine qv rfl (Vn (k := .i64) (a := x1) (b := x2) rfl rfl)<|qv rfl (Vn (k := .i64) (a := Qi (x1 - x2)) (b := 1) rfl rfl) ?_
 obtain ⟨nn3, hnn3, hm⟩ := Qc hm
 refine qv rfl (Qor (a := p1) (b := (Qi ((Qi (x1 - x2)) - 1))) rfl rfl hnn3)<|qm rfl<|Qa<|Qo ?_
 have X3 := (((Gr.refl w).trans G1).trans G2)
 cases hm
 refine ⟨_, _, rfl, Qt rfl (Qg rfl), ?_⟩
 exact ⟨rfl, X3⟩
theorem Ql4 (p1 : Int) (p2 : Int) (bp1 : Nat) (bp2 : Nat) (xs : List Int) (hm : Qac p1 p2 = some xs) (w0 : World) (hbp1 : Bx w0 bp1 298 ([.int .i64 p1])) (hbp2 : Bx w0 bp2 298 ([.int .i64 p2])) :
    IT Tryz.prog 353 [.pointer (some ⟨bp1, 0, none⟩), .pointer (some ⟨bp2, 0, none⟩)] (xs.map (fun (x : Int) => ([.int .i64 x] : List Value))) ([bp1] ++ [bp2]) w0 := by
 intro l J Jx w fp hG hJ hJx hcap h0 hY
 have c1 := Bx.gr hbp1 hG
 have A := c1.lt
 have o : bp1 ∉ fp := hcap _ (by simp)
 have c4 := Bx.gr hbp2 hG
 have B := c4.lt
 have p : bp2 ∉ fp := hcap _ (by simp)
 have hd := Qle xs
 unfold Qac at hm
 refine Xe 16 Tryz.func353 rfl rfl rfl<|qs 2 rfl<|qv rfl (Qd (v := .int .i64 p1) Hb rfl c1 rfl)<|qm rfl<|Qa<|Xi<|Zq (α := Nat × Int × Nat × List Nat × List Int) ([4] ++ rg 6 10) (fun ⟨n1, a2, kk, fpl, rl⟩ => [(4, .int .i64 a2)]) (fun ⟨n1, a2, kk, fpl, rl⟩ wr => (Qr (Uy p2) n1 a2 = some rl) ∧ Dr xs kk rl ∧ J kk fpl wr ∧ (∀ c ∈ fpl, c ∈ fp ∨ w.heap.size ≤ c) ∧ Kp fp w wr ∧ Bx wr bp1 298 ([.int .i64 p1]) ∧ Bx wr bp2 298 ([.int .i64 p2]) ∧ bp1 ∉ fpl ∧ bp2 ∉ fpl ∧ True) (fun ⟨n1, a2, kk, fpl, rl⟩ => n1) ⟨Xb, p1, 0, fp, xs⟩ ?_ ?_ ?_
 · exact Qf
 · exact ⟨hm, hd, h0, (fun c hc => Or.inl hc), (Kp.refl fp w), c1, c4, o, p, trivial⟩
 clear hm; rintro ⟨n1, a2, j, fpl1, rl1⟩ w1 ⟨hm, dl1, JLw1, sl1, KLw1, f, d, g, h, -⟩
 have z7 := KLw1.size
 have C := f.lt
 have D := d.lt
 have hb := Zx hm; clear hm; obtain ⟨n1, rfl, hm⟩ := hb
 generalize k : Qr (Uy p2) n1 = z at hm
 unfold Uy at hm
 try dsimp only at hm
 refine Qe<|qs 3 rfl<|qm rfl<|qv rfl (Qd (v := .int .i64 p2) Hb rfl d rfl)<|qv rfl (Jw (a := a2) (b := p2) rfl rfl)<|Qa<|Zu rfl (fun c1 => ?_) (fun c1 => ?_)
 · replace hm := iF c1 hm
   refine Zl<|Xk<|Xk<|Zk ?_
   have he := Option.some.inj hm
   have hl := Dr.last (c := (fun (x : Int) => ([.int .i64 x] : List Value))) dl1 he.symm
   refine ⟨_, _, rfl, Nl rfl, KLw1, .inl ⟨_, sl1, ?_⟩⟩
   rw [← hl]; exact JLw1
 replace hm := iT c1 hm
 refine qu<|Xi<|qs 4 rfl<|qm rfl<|qv rfl (Qd (v := .int .i64 p2) Hb rfl d rfl) ?_
 obtain ⟨x3, q, hm⟩ := Qc hm
 refine qe rfl (eC Qi5 rfl (Qhs q)) ?_
 rintro _ w2 ⟨rfl, G2⟩
 have E := G2.size
 refine qm rfl<|qd 4 rfl<|qm rfl<|qm rfl ?_
 have r := (hJ.gr JLw1 G2)
 have KI13 : Kp fp w w2 := (KLw1.gr G2)
 obtain ⟨rr11, hm, he11⟩ := Qha hm
 have i := Dr.at dl1 he11
 have hd11 := Dr.next dl1 he11
 have s := (f.gr G2)
 have t := (d.gr G2)
 refine qe rfl (Qb3 rfl rfl (hY _ _ _ _ (Dy i) r KI13 sl1)) ?_
 rintro _ w3 ⟨bb, rfl, KF11, e, hg11, hJb⟩
 have F := KF11.size
 have sub11 : ∀ c ∈ e, c ∈ fp ∨ w.heap.size ≤ c := Sp sl1 hg11 (by omega)
 have m := Ku hg11 g (by omega)
 have n := Ku hg11 h (by omega)
 cases bb
 · have Jy11 : Jx (j + 1) e w3 := hJb
   refine qv rfl (Jb rfl)<|Qa<|Ry rfl<|Qo<|Zz<|Zf<|Zz ?_
   have KI19 : Kp fp w w3 := (KI13.trans KF11 sl1)
   exact ⟨_, _, rfl, Nl rfl, KI19, .inr ⟨_, _, sub11, (by rw [List.length_map]; exact (List.getElem?_eq_some_iff.1 i).1), Jy11⟩⟩
 have Jy11 : J (j + 1) e w3 := hJb
 refine qv rfl (Jb rfl)<|Qa<|Sr rfl<|Vi<|Xy ?_
 have KI20 : Kp fp w w3 := (KI13.trans KF11 sl1)
 have u := (Bx.kp s KF11 g)
 have y := (Bx.kp t KF11 h)
 subst k
 exact ⟨rfl, ⟨n1, x3, (j + 1), e, rr11⟩, Qf, ⟨hm, hd11, Jy11, sub11, KI20, u, y, m, n, trivial⟩, Nat.lt_succ_self _⟩
theorem Qx1 {f g d bp0_0 bp0_1 r} (hm : Qhq f g d = some r) {w : World} (hbp0_0 : Bx w bp0_0 298 ([.int .i64 f])) (hbp0_1 : Bx w bp0_1 298 ([.int .i64 g])) :
    Calls Tryz.prog 354 [.func (.func 353) [].toArray [.pointer (some ⟨bp0_0, 0, none⟩), .pointer (some ⟨bp0_1, 0, none⟩)].toArray, .func (.func 308) [.agg (Xv.cs d).toArray].toArray [].toArray].toArray w fun e w' => ∃ v, e = .returned v ∧ (v = .int .i64 r ∧ Gr w w') := by
 have U := hbp0_0.lt
 have V := hbp0_1.lt
 unfold Qhq at hm
 refine Xe 12 Tryz.func354 rfl rfl rfl<|qs 2 rfl<|qe rfl (Qy rfl rfl) ?_
 rintro _ w1 ⟨b1, rfl, Q, o, G1⟩
 have X := o.lt
 refine qe rfl (Xh (cs := [.int .i64 0]) Qkk rfl) ?_
 rintro _ w2 ⟨b2, rfl, R, p, G2⟩
 have Y := p.lt
 refine Qa<|Qe<|qs 1 rfl<|qm rfl<|Qa<|Xi ?_
 have B7 := ((hbp0_0.gr G1).gr G2)
 have B8 := ((hbp0_1.gr G1).gr G2)
 obtain ⟨l1, y, hm⟩ := Qc hm
 have X9 := (((Gr.refl w).trans G1).trans G2)
 have z := (o.gr G2)
 refine Oe (gf := 353) rfl Qm0 (Ql4 f g _ _ _ y _ B7 B8) (by intro x hx; obtain ⟨a, _, rfl⟩ := List.mem_map.1 hx; rfl) rfl _ _ ([b2]) (Od (α := Int) (fun a3 rk => Vf (Qab d) Qdu (List.drop rk l1) a3 = some r) (fun a3 => ([b2])) (fun a3 W => Bx W b2 298 ([.int .i64 a3]) ∧ True) (by rintro a3 W ⟨F0, _⟩ b hb; have q0 := F0.lt; replace hb : b ∈ ([b2]) := hb; simp only [List.mem_cons, List.mem_append, Jj, List.not_mem_nil, or_false, false_or, not_or, ne_eq, List.nil_append, List.cons_append, true_and, and_true, false_and, and_false, not_true_eq_false, not_false_eq_true, or_true, true_or] at hb; omega) (by rintro a3 W W' ⟨F0, _⟩ E hs; replace hs : ∀ b ∈ ([b2]), W'.heap[b]? = W.heap[b]? := hs; exact ⟨(hs _ (by simp)).trans F0, trivial⟩)) (fun c => (Quz (c = .ret) (Od (α := Int) (fun a3 rk => Ql0 a3 = some r) (fun a3 => ([b2])) (fun a3 W => Bx W b2 298 ([.int .i64 a3]) ∧ True) (by rintro a3 W ⟨F0, _⟩ b hb; have q0 := F0.lt; replace hb : b ∈ ([b2]) := hb; simp only [List.mem_cons, List.mem_append, Jj, List.not_mem_nil, or_false, false_or, not_or, ne_eq, List.nil_append, List.cons_append, true_and, and_true, false_and, and_false, not_true_eq_false, not_false_eq_true, or_true, true_or] at hb; omega) (by rintro a3 W W' ⟨F0, _⟩ E hs; replace hs : ∀ b ∈ ([b2]), W'.heap[b]? = W.heap[b]? := hs; exact ⟨(hs _ (by simp)).trans F0, trivial⟩)))) (by intro b hb; simp only [List.mem_cons, List.mem_append, Jj, List.not_mem_nil, or_false, false_or, not_or, ne_eq, List.nil_append, List.cons_append, true_and, and_true, false_and, and_false, not_true_eq_false, not_false_eq_true, or_true, true_or] at hb ⊢; omega) ⟨0, hm, rfl, p, trivial⟩ ?_ ?_ ?_
 · rintro l rk x fp w3 hl hx _ K3 hF hln Jt
   clear hm
   obtain ⟨e4, hxe, rfl⟩ := map_some hx
   have A : Kz [(1, b2)] w2 w3 := Fv K3 (by intro k hk; simp only [Jp, and_true, List.mem_cons, List.mem_append, Jj, List.not_mem_nil, or_false, false_or, not_or, ne_eq, List.nil_append, List.cons_append, true_and, and_true, false_and, and_false, not_true_eq_false, not_false_eq_true, or_true, true_or] at hk ⊢; omega)
   refine qg 1 rfl<|qm rfl<|Qh<|⟨rfl, (Gr.refl _), ?_⟩
   rintro w4 M4 ⟨a3, hm, rfl, h, -⟩
   replace hm := Qew hm hxe
   generalize hnx1 : Vf (Qab d) Qdu (List.drop (rk + 1) l1) = Z at hm
   unfold Qab at hm
   try dsimp only at hm
   refine Xi<|qs 3 rfl ?_
   have B := ((z.kz A).md M4)
   refine qv rfl (Qd Xd7 rfl B rfl)<|qm rfl ?_
   obtain ⟨x5, C, hm⟩ := Qc hm
   refine qe rfl (Dg Qqq rfl rfl (Qpt C)) ?_
   rintro _ w5 ⟨rfl, G5⟩
   refine Qa<|Xj rfl (fun c1 => ?_) (fun c1 => ?_)
   · replace hm := Xx c1 hm
     refine qs 2 rfl<|qm rfl ?_
     have D := (h.gr G5)
     refine qe rfl (Hn (cs' := [.int .i64 e4]) (Hb).siz rfl rfl rfl D rfl rfl) ?_
     rintro _ w6 ⟨F, M6⟩
     refine Qa<|Qo<|Zz ?_
     have K_18 : Kz [(1, b2)] w4 w6 := ((Kz.gr (Kz.refl _ _) G5).md M6)
     have Kq18 : Kp ([b2]) w4 w6 := Qez K_18 (by intro k hk; simp only [Jp, and_true, List.mem_cons, List.mem_append, Jj, List.not_mem_nil, or_false, false_or, not_or, ne_eq, List.nil_append, List.cons_append, true_and, and_true, false_and, and_false, not_true_eq_false, not_false_eq_true, or_true, true_or] at hk ⊢; omega)
     exact ⟨Kq18, ([b2]), (by intro c hc; simp only [List.mem_cons, List.mem_append, Jj, List.not_mem_nil, or_false, false_or, not_or, ne_eq, List.nil_append, List.cons_append, true_and, and_true, false_and, and_false, not_true_eq_false, not_false_eq_true, or_true, true_or] at hc ⊢; omega), ⟨rfl, e4, hm, rfl, F, trivial⟩⟩
   replace hm := Xw c1 hm
   refine Vi<|Xy ?_
   have G := (h.gr G5)
   have K_19 : Kz [(1, b2)] w4 w5 := (Kz.gr (Kz.refl _ _) G5)
   have Kq19 : Kp ([b2]) w4 w5 := Qez K_19 (by intro k hk; simp only [Jp, and_true, List.mem_cons, List.mem_append, Jj, List.not_mem_nil, or_false, false_or, not_or, ne_eq, List.nil_append, List.cons_append, true_and, and_true, false_and, and_false, not_true_eq_false, not_false_eq_true, or_true, true_or] at hk ⊢; omega)
   subst hnx1
   exact ⟨Kq19, ([b2]), (by intro c hc; simp only [List.mem_cons, List.mem_append, Jj, List.not_mem_nil, or_false, false_or, not_or, ne_eq, List.nil_append, List.cons_append, true_and, and_true, false_and, and_false, not_true_eq_false, not_false_eq_true, or_true, true_or] at hc ⊢; omega), ⟨a3, hm, rfl, G, trivial⟩⟩
 · clear hm; rintro i fp w7 S q H ⟨a3, hm, rfl, j, -⟩ K7
   replace hm := Qex hm
   have I : Kz [(1, b2)] w2 w7 := Fv K7 (by intro k hk; simp only [Jp, and_true, List.mem_cons, List.mem_append, Jj, List.not_mem_nil, or_false, false_or, not_or, ne_eq, List.nil_append, List.cons_append, true_and, and_true, false_and, and_false, not_true_eq_false, not_false_eq_true, or_true, true_or] at hk ⊢; omega)
   simp only [List.mem_cons, List.mem_append, Jj, List.not_mem_nil, or_false, false_or, not_or, ne_eq, List.nil_append, List.cons_append, true_and, and_true, false_and, and_false, not_true_eq_false, not_false_eq_true, or_true, true_or, not_and] at H
   unfold Qdu at hm
   try dsimp only at hm
   refine Xy<|Xl<|qs 1 rfl<|qe rfl (Hn (cs' := [.int .i64 0]) (Hb).siz rfl rfl rfl j rfl rfl) ?_
   rintro _ w8 ⟨J, M8⟩
   refine Qa<|Qo ?_
   have DL25 := (Df.md q M8)
   have s := Md.put (w := w8) i (.deferred none)
   have K := (J.md s)
   have L : Gr w (w8.putObj i (.deferred none)) := (((X9.kz I).md M8).md s)
   cases hm
   refine ⟨_, _, ⟨i, rfl, DL25, rfl⟩, Qt rfl (Quk Hb rfl K), ?_⟩
   exact ⟨rfl, L⟩
 clear hm; rintro m c rk fp w9 T t M hle ⟨rfl, a3, hm, rfl, n, -⟩ K9
 have N : Kz [(1, b2)] w2 w9 := Fv K9 (by intro k hk; simp only [Jp, and_true, List.mem_cons, List.mem_append, Jj, List.not_mem_nil, or_false, false_or, not_or, ne_eq, List.nil_append, List.cons_append, true_and, and_true, false_and, and_false, not_true_eq_false, not_false_eq_true, or_true, true_or] at hk ⊢; omega)
 simp only [List.mem_cons, List.mem_append, Jj, List.not_mem_nil, or_false, false_or, not_or, ne_eq, List.nil_append, List.cons_append, true_and, and_true, false_and, and_false, not_true_eq_false, not_false_eq_true, or_true, true_or, not_and] at M
 unfold Ql0 at hm
 try dsimp only at hm
 refine Qo<|Zz<|Zf ?_
 have DL31 := t
 have u := Md.put (w := w9) m (.deferred none)
 have O := (n.md u)
 have P : Gr w (w9.putObj m (.deferred none)) := ((X9.kz N).md u)
 cases hm
 refine ⟨_, _, ⟨m, rfl, DL31, rfl⟩, Qt rfl (Quk Hb rfl O), ?_⟩
 exact ⟨rfl, P⟩
theorem Qx3 {p0 p1 p2 r} (hm : Qae p0 p1 p2 = some r) {w : World} :
    Calls Tryz.prog 309 [.agg (Xv.cs p0).toArray, .int .i64 p1, .int .i64 p2].toArray w fun e w' => ∃ v, e = .returned v ∧ (v = .int .i64 r ∧ Gr w w') := by
 unfold Qae at hm
 refine Xe 14 Tryz.func309 rfl rfl rfl<|qs 2 rfl<|qe rfl (Qy (cs := Xv.cs p0) rfl rfl) ?_
 rintro _ w1 ⟨b1, rfl, m, j, G1⟩
 refine qm rfl<|Qa<|Qe<|dw [([])] [] (.leaf [(0,10),(1,10),(2,10),(4,10),(5,10),(3,0),(6,0),(7,10)]) ?_
 intro w2 G2 n
 refine Zj<|dm 0 rfl rfl<|dm 0 rfl rfl ?_
 obtain ⟨nn1, hnn1, hm⟩ := Qc hm
 refine dh 0 rfl rfl (fun w hS => Qor (a := p2) (b := (un 1#64)) rfl rfl hnn1) ?_
 have B3 := (j.gr G2)
 refine dh 0 rfl rfl (fun w hS => Qp Vj rfl (Bx.kp B3 hS) rfl)<|dh 0 rfl rfl (fun w hS => Mv rfl rfl) ?_
 obtain ⟨x2, k, hm⟩ := Qc hm
 refine qz [] rfl (eC Qlx rfl (Ql5 k)) ⟨fun _ => Qj, trivial⟩ ?_
 rintro _ w3 ⟨f, g, rfl, c, h, d, i, G3⟩
 refine kG G3 ?_
 obtain ⟨x3, l, hm⟩ := Qc hm
 refine qz [] rfl (eC Qzo rfl (Qx1 l c d)) ⟨fun _ => Qj, trivial⟩ ?_
 rintro _ w4 ⟨rfl, G4⟩
 refine kG G4 ?_
 have S8 := (((Kp.refl ([]) w2).gr G3).gr G4)
 refine dn 0 rfl rfl S8<|Qa<|Qo ?_
 have X9 := (((((Gr.refl w).trans G1).trans G2).trans G3).trans G4)
 cases hm
 refine ⟨_, _, rfl, Qt rfl (Qg rfl), ?_⟩
 exact ⟨rfl, X9⟩
theorem Ql8 {p0 p1 r} (hm : Ed p0 p1 = some r) {w : World} :
    Calls Tryz.prog 207 [.agg (Xv.cs p0).toArray, .agg (Xo.cs p1).toArray].toArray w fun e w' => ∃ v, e = .returned v ∧ (v = .bool r ∧ Gr w w') := by
 unfold Ed at hm
 refine Xe 68 Tryz.func207 rfl rfl rfl<|qs 3 rfl<|qe rfl (Qy (cs := Xv.cs p0) rfl rfl) ?_
 rintro _ w1 ⟨b1, rfl, F, g, G1⟩
 refine qe rfl (Qy (cs := Xo.cs p1) rfl rfl) ?_
 rintro _ w2 ⟨b2, rfl, G, h, G2⟩
 refine qm rfl<|Qa<|Qe<|dw [([])] [] (.leaf [(0,10),(1,10),(2,10),(3,10),(4,10),(5,10)]) ?_
 intro w3 G3 H
 refine Zj<|dh 0 rfl rfl (fun w hS => Qb Wt rfl) ?_
 have B5 := (h.gr G3)
 refine dh 0 rfl rfl (fun w hS => Qd (v := .int .i64 p1.Node) Qv rfl (Bx.kp B5 hS) rfl)<|dh 0 rfl rfl (fun w hS => Qb Vu rfl)<|dh 0 rfl rfl (fun w hS => Qd (v := .int .i64 p1.Minus) Qv rfl (Bx.kp B5 hS) rfl)<|dm 0 rfl rfl<|dm 0 rfl rfl<|Qa<|Qe<|Xi<|qs 6 rfl ?_
 have B6 := ((g.gr G2).gr G3)
 refine qv rfl (Qp Vj rfl B6 rfl)<|qv rfl (Qb Wt rfl)<|qv rfl (Qd (v := .int .i64 p1.Node) Qv rfl B5 rfl) ?_
 obtain ⟨x1, i, hm⟩ := Qc hm
 refine qe rfl (eC Qqp rfl (Qps i)) ?_
 rintro _ w4 ⟨rfl, G4⟩
 refine qv rfl (Jb rfl)<|qm rfl<|Qa<|Xj rfl (fun c1 => ?_) (fun c1 => ?_)
 · replace hm := Xx c1 hm
   refine qs 1 rfl<|qm rfl<|Qa<|Qo<|Zz<|Zf ?_
   have Y1 := Gr.trans (Gr.trans (Gr.trans G1 G2) G3) G4
   have X8 := ((Gr.refl w).trans Y1)
   cases hm
   refine ⟨_, _, rfl, Qt rfl (Qg rfl), ?_⟩
   exact ⟨rfl, X8⟩
 replace hm := Xw c1 hm
 have Y2 := Gr.trans (Gr.trans (Gr.trans G1 G2) G3) G4
 have X9 := ((Gr.refl w).trans Y2)
 refine qj (β := Bool) (rg 17 8) (fun a2 => [(17, .bool a2)]) (fun a2 wr => (Qai p0 p1 a2 = some r) ∧ Kz [] w4 wr) ?_ ?_
 · refine qg 8 rfl<|qv rfl (Qb Et rfl) ?_
   have j := (B6.gr G4)
   refine qv rfl (Qd (v := bv p0.kind) Xs rfl j rfl)<|qv rfl (Yz (p := p0.kind) (q := 1#8) rfl rfl)<|qp rfl (Qm rfl) (fun d => ?_) (fun d => ?_)
   · replace hm := iT d hm
     refine qk rfl<|qk rfl<|qm rfl<|qm rfl<|Qh ?_
     exact ⟨rfl, true, Qf, hm, Qz⟩
   replace hm := iF d hm
   refine qm rfl<|qv rfl (Jr (a := p1.Minus) (b := 0) rfl rfl)<|qm rfl<|qm rfl<|Qh ?_
   exact ⟨rfl, (decide (p1.Minus = 0)), Qf, hm, Qz⟩
 clear hm; rintro a2 w5 ⟨hm, K5⟩
 unfold Qai at hm
 refine Xj rfl (fun c2 => ?_) (fun c2 => ?_)
 · replace hm := Xx c2 hm
   refine qs 12 rfl<|qm rfl<|qv rfl (Jr (a := p1.Minus) (b := 0) rfl rfl)<|Jh rfl (Qm rfl) (fun c3 => ?_) (fun c3 => ?_)
   · replace hm := iF c3 hm
     refine qk rfl<|qk rfl<|qk rfl<|qk rfl<|qk rfl<|qk rfl<|qk rfl<|qm rfl<|qm rfl<|Qa<|Qo<|Zz<|Zf ?_
     have k := (X9.kz K5)
     cases hm
     refine ⟨_, _, rfl, Qt rfl (Qg rfl), ?_⟩
     exact ⟨rfl, k⟩
   replace hm := iT c3 hm
   refine qv rfl (Qb Et rfl) ?_
   have l := ((B6.gr G4).kz K5)
   refine qv rfl (Qd (v := bv p0.kind) Xs rfl l rfl)<|qv rfl (Yz (p := p0.kind) (q := 1#8) rfl rfl)<|qp rfl (Qm rfl) (fun c4 => ?_) (fun c4 => ?_)
   · replace hm := iT c4 hm
     refine qk rfl<|qk rfl<|qm rfl<|qm rfl<|qm rfl<|Qa<|Qo<|Zz<|Zf ?_
     have m := (X9.kz K5)
     cases hm
     refine ⟨_, _, rfl, Qt rfl (Qg rfl), ?_⟩
     exact ⟨rfl, m⟩
   replace hm := iF c4 hm
   refine qm rfl<|qv rfl (Jr (a := p1.Node) (b := 1) rfl rfl)<|qm rfl<|qm rfl<|qm rfl<|Qa<|Qo<|Zz<|Zf ?_
   have n := (X9.kz K5)
   cases hm
   refine ⟨_, _, rfl, Qt rfl (Qg rfl), ?_⟩
   exact ⟨rfl, n⟩
 replace hm := Xw c2 hm
 have c := (X9.kz K5)
 refine qj (β := Bool) (rg 36 17) (fun a3 => [(36, .bool a3)]) (fun a3 wr => (Ee p0 p1 a3 = some r) ∧ Kz [] w5 wr) ?_ ?_
 · refine qg 17 rfl ?_
   have o := ((B6.gr G4).kz K5)
   refine qv rfl (Qp Vj rfl o rfl)<|qv rfl (Qb Vu rfl) ?_
   have s := ((B5.gr G4).kz K5)
   refine qv rfl (Qd (v := .int .i64 p1.Minus) Qv rfl s rfl) ?_
   obtain ⟨x6, t, hm⟩ := Qc hm
   refine qe rfl (eC Qqp rfl (Qps t)) ?_
   rintro _ w9 ⟨rfl, G9⟩
   refine qv rfl (Jb rfl)<|qp rfl (Qm rfl) (fun c8 => ?_) (fun c8 => ?_)
   · replace hm := Xx c8 hm
     refine qk rfl<|qk rfl<|qk rfl<|qm rfl<|qm rfl<|qk rfl<|qk rfl<|qk rfl<|qk rfl<|qm rfl<|qm rfl<|Qh ?_
     exact ⟨rfl, true, Qf, hm, (Qz.gr G9)⟩
   replace hm := Xw c8 hm
   refine qm rfl<|qm rfl<|qv rfl (Jr (a := p1.Minus) (b := p1.Node) rfl rfl)<|qm rfl<|qp rfl (Qm rfl) (fun c9 => ?_) (fun c9 => ?_)
   · replace hm := iT c9 hm
     refine qk rfl<|qk rfl<|qk rfl<|qk rfl<|qm rfl<|qm rfl<|Qh ?_
     exact ⟨rfl, true, Qf, hm, (Qz.gr G9)⟩
   replace hm := iF c9 hm
   refine qm rfl<|qm rfl ?_
   obtain ⟨x7, u, hm⟩ := Qc hm
   refine qe rfl (eC Qly rfl (Ql2 u)) ?_
   rintro _ I ⟨rfl, x⟩
   refine qv rfl (Jb rfl)<|qm rfl<|qm rfl<|Qh ?_
   exact ⟨rfl, (!x7), Qf, hm, ((Qz.gr G9).gr x)⟩
 clear hm; rintro a3 w6 ⟨hm, K6⟩
 unfold Ee at hm
 refine Xj rfl (fun c5 => ?_) (fun c5 => ?_)
 · replace hm := Xx c5 hm
   refine qs 1 rfl<|qm rfl<|Qa<|Qo<|Zz<|Zf ?_
   have y := (c.kz K6)
   cases hm
   refine ⟨_, _, rfl, Qt rfl (Qg rfl), ?_⟩
   exact ⟨rfl, y⟩
 replace hm := Xw c5 hm
 refine Vi<|Xy<|Xl<|qs 16 rfl<|qv rfl (Qb Et rfl) ?_
 have f := (((B6.gr G4).kz K5).kz K6)
 refine qv rfl (Qd (v := bv p0.kind) Xs rfl f rfl)<|qv rfl (Yz (p := p0.kind) (q := 2#8) rfl rfl)<|qp rfl (Qm rfl) (fun c6 => ?_) (fun c6 => ?_)
 · replace hm := iT c6 hm
   refine qk rfl<|qk rfl<|qk rfl<|qm rfl<|qm rfl<|qk rfl<|qk rfl<|qk rfl<|qk rfl<|qk rfl<|qm rfl<|qm rfl<|Qa<|Qo ?_
   have z := (c.kz K6)
   cases hm
   refine ⟨_, _, rfl, Qt rfl (Qg rfl), ?_⟩
   exact ⟨rfl, z⟩
 replace hm := iF c6 hm
 refine qv rfl (Qp Vj rfl f rfl)<|qm rfl ?_
 obtain ⟨x4, A, hm⟩ := Qc hm
 refine qe rfl (eC Qqq rfl (Qpt A)) ?_
 rintro _ w7 ⟨rfl, G7⟩
 refine qm rfl<|qp rfl (Qm rfl) (fun c7 => ?_) (fun c7 => ?_)
 · replace hm := Xx c7 hm
   refine qk rfl<|qk rfl<|qk rfl<|qk rfl<|qk rfl<|qm rfl<|qm rfl<|Qa<|Qo ?_
   have B := ((c.kz K6).trans G7)
   cases hm
   refine ⟨_, _, rfl, Qt rfl (Qg rfl), ?_⟩
   exact ⟨rfl, B⟩
 replace hm := Xw c7 hm
 have C := (f.gr G7)
 refine qv rfl (Qp Vj rfl C rfl)<|qm rfl<|qm rfl ?_
 obtain ⟨x5, D, hm⟩ := Qc hm
 refine qe rfl (eC Qz9 rfl (Qx3 D)) ?_
 rintro _ w8 ⟨rfl, G8⟩
 refine qv rfl (Jr (a := x5) (b := 0) rfl rfl)<|qm rfl<|qm rfl<|Qa<|Qo ?_
 have E := (((c.kz K6).trans G7).trans G8)
 cases hm
 refine ⟨_, _, rfl, Qt rfl (Qg rfl), ?_⟩
 exact ⟨rfl, E⟩
theorem Qpp {p0 p1 vp1 zp1 gp1 op1 r} (hm : Ut p0 p1 = some r) {w : World} (h : Rd w zp1 gp1 op1 2 vp1 (p1.map Xo.cs)) :
    Calls Tryz.prog 200 [.agg (Qs.cs p0).toArray, vp1].toArray w fun e w' => ∃ v, e = .returned v ∧ (v = .tuple [.agg (Xv.cs r.1).toArray, .int .i64 r.2].toArray ∧ Gr w w') := by
 have x := h.lth
 unfold Ut at hm
 refine Xe 31 Tryz.func200 rfl rfl rfl<|qs 3 rfl<|qe rfl (Qy (cs := Qs.cs p0) rfl rfl) ?_
 rintro _ w1 ⟨b1, rfl, O, j, G1⟩
 have T := j.lt
 refine qe rfl (Xh (cs := Xv.cs (Xv.mk 0#8 0 0)) My rfl) ?_
 rintro _ w2 ⟨b2, rfl, P, d, G2⟩
 have U := d.lt
 refine qm rfl<|qd 8 rfl ?_
 have B6 := (j.gr G2)
 refine qv rfl (Qp Zw rfl B6 rfl) ?_
 obtain ⟨x1, y, hm⟩ := Qc hm
 refine qe rfl (eC Qqb rfl (Qpr y)) ?_
 rintro _ w3 ⟨rfl, G3⟩
 have z7 := G3.size
 refine qm rfl<|qm rfl<|qm rfl<|qe rfl (Xh (cs := Xv.cs (Xv.mk 0#8 0 0)) My rfl) ?_
 rintro _ w4 ⟨b4, rfl, Q, m, G4⟩
 have V := m.lt
 refine qe rfl (Qx Vj rfl rfl rfl m rfl rfl) ?_
 rintro _ w5 ⟨n, M5⟩
 have W := M5.size
 refine qm rfl<|Qa<|Qe<|qs 2 rfl<|qm rfl<|qv rfl (Jb rfl)<|Qa<|Xj rfl (fun c1 => ?_) (fun c1 => ?_)
 · replace hm := Xx c1 hm
   refine qs 3 rfl<|qv rfl (Zv (cs := Xv.cs (Xv.mk 0#8 0 0)) Qhj rfl rfl) ?_
   have Y1 := Gr.trans G3 G4
   have z := ((d.gr Y1).md M5)
   refine qe rfl (Qx Vj rfl rfl rfl z rfl rfl) ?_
   rintro _ w6 ⟨A, M6⟩
   refine qm rfl<|qb ?_
   have Y2 := Gr.trans (Gr.trans G1 G2) Y1
   have B := ((((Gr.refl w).trans Y2).md M5).md M6)
   cases hm
   refine ⟨_, _, rfl, Zb rfl (Xr Vj rfl A rfl) (Qg rfl), ?_⟩
   exact ⟨rfl, B⟩
 replace hm := Xw c1 hm
 refine qu<|Qe<|qs 3 rfl<|qm rfl ?_
 have Y3 := Gr.trans (Gr.trans (Gr.trans G1 G2) G3) G4
 have o := ((h.gr Y3).md M5 (Xd x))
 refine qv rfl (Zo (l := p1) (c := Xo.cs) Tryz.underlying202 rfl o)<|qm rfl<|Qa<|Xi ?_
 have p := (((Gr.refl w).trans Y3).md M5)
 refine Zq (α := Nat × Int) ([5, 9] ++ rg 20 10) (fun ⟨n1, a3⟩ => [(5, .int .i64 0), (20, .int .i64 a3)]) (fun ⟨n1, a3⟩ wr => (Qr (Qdt p1 x1) n1 a3 = some r) ∧ Kz [] w5 wr) (fun ⟨n1, a3⟩ => n1) ⟨Xb, 0⟩ ?_ ?_ ?_
 · exact Qf
 · exact ⟨hm, Kz.refl _ _⟩
 clear hm; rintro ⟨n1, a3⟩ w7 ⟨hm, K7⟩
 have X := K7.size
 have hb := Zx hm; clear hm; obtain ⟨n1, rfl, hm⟩ := hb
 generalize f : Qr (Qdt p1 x1) n1 = R at hm
 unfold Qdt at hm
 try dsimp only at hm
 refine qs 1 rfl<|qv rfl (Zc (a := a3) (b := (p1.length : Int)) rfl rfl)<|Qa<|Qe<|Zu rfl (fun c2 => ?_) (fun c2 => ?_)
 · replace hm := iF c2 hm
   refine Zl<|Xk<|Xk<|Zk<|Xl<|qs 3 rfl ?_
   have C := (n.kz K7)
   refine qv rfl (Qp Vj rfl C rfl) ?_
   have Y4 := Gr.trans G3 G4
   have D := (((d.gr Y4).md M5).kz K7)
   refine qe rfl (Qx Vj rfl rfl rfl D rfl rfl) ?_
   rintro _ Y ⟨q, E⟩
   refine qm rfl<|Qa<|Qo ?_
   have F := ((p.kz K7).md E)
   cases hm
   refine ⟨_, _, rfl, Zb rfl (Xr Vj rfl q rfl) (Qg rfl), ?_⟩
   exact ⟨rfl, F⟩
 replace hm := iT c2 hm
 refine qu<|Qe<|Xi<|qs 4 rfl ?_
 obtain ⟨y4, s, hm⟩ := Qc hm
 have t := (o.kz K7)
 refine qv rfl (Jm (i := a3) Tryz.underlying202 (Wl).siz rfl t rfl s)<|qv rfl (Hc Wl rfl t s (by first | rfl | omega))<|qe rfl (Xh (cs := Xo.cs (Xo.mk 0 0)) Qhb rfl) ?_
 rintro _ w8 ⟨b8, rfl, S, G, G8⟩
 refine qe rfl (Qx Wl rfl rfl rfl G rfl rfl) ?_
 rintro _ w9 ⟨H, M9⟩
 refine qd 4 rfl ?_
 have I := (((n.kz K7).gr G8).md M9)
 refine qv rfl (Qp Vj rfl I rfl)<|qv rfl (Qp Wl rfl H rfl) ?_
 obtain ⟨x5, J, hm⟩ := Qc hm
 refine qe rfl (eC Qlq rfl (Ql8 J)) ?_
 rintro _ K ⟨rfl, g⟩
 refine qv rfl (Jb rfl)<|Qa<|Zu rfl (fun c3 => ?_) (fun c3 => ?_)
 · replace hm := Xw c3 hm
   refine Vi<|Xy<|Xl<|qg 2 rfl<|qv rfl (Zg (k := .i64) (a := a3) (b := 1) rfl rfl)<|qm rfl<|Qh ?_
   have K_26 : Kz [] w5 K := (((K7.gr G8).md M9).gr g)
   subst f
   exact ⟨rfl, ⟨n1, Qi (a3 + 1)⟩, Qf, ⟨hm, K_26⟩, Nat.lt_succ_self _⟩
 replace hm := Xx c3 hm
 refine qs 3 rfl<|qv rfl (Zv (cs := Xv.cs (Xv.mk 0#8 0 0)) Qhj rfl rfl) ?_
 have Y5 := Gr.trans G3 G4
 have L := ((((((d.gr Y5).md M5).kz K7).gr G8).md M9).gr g)
 refine qe rfl (Qx Vj rfl rfl rfl L rfl rfl) ?_
 rintro _ Z ⟨u, M⟩
 refine qm rfl<|Qa<|Qo<|Zz<|Zf<|Zf<|Zz<|Zf ?_
 have N := (((((p.kz K7).trans G8).md M9).trans g).md M)
 cases hm
 refine ⟨_, _, rfl, Zb rfl (Xr Vj rfl u rfl) (Qg rfl), ?_⟩
 exact ⟨rfl, N⟩
theorem Qxa {p0 p1 r} (hm : Qah p0 p1 = some r) {w : World} :
    Calls Tryz.prog 201 [.agg (Xv.cs p0).toArray, .int .i64 p1].toArray w fun e w' => ∃ v, e = .returned v ∧ (v = .bool r ∧ Gr w w') := by
 unfold Qah at hm
 refine Xe 13 Tryz.func201 rfl rfl rfl<|qs 2 rfl<|qe rfl (Qy (cs := Xv.cs p0) rfl rfl) ?_
 rintro _ w1 ⟨b1, rfl, f, c, G1⟩
 refine qm rfl<|qd 9 rfl<|qm rfl<|qv rfl (Kl (a := p1) (b := 0) rfl rfl)<|Jh rfl (Qm rfl) (fun c1 => ?_) (fun c1 => ?_)
 · replace hm := iF c1 hm
   refine qk rfl<|qk rfl<|qk rfl<|qk rfl<|qm rfl<|qm rfl<|Qa<|Qo ?_
   have X5 := ((Gr.refl w).trans G1)
   cases hm
   refine ⟨_, _, rfl, Qt rfl (Qg rfl), ?_⟩
   exact ⟨rfl, X5⟩
 replace hm := iT c1 hm
 refine qm rfl<|qv rfl (Qp Vj rfl c rfl) ?_
 obtain ⟨x1, d, hm⟩ := Qc hm
 refine qe rfl (eC Qlw rfl (Ql7 d)) ?_
 rintro _ w2 ⟨rfl, G2⟩
 refine qv rfl (Zc (a := p1) (b := x1) rfl rfl)<|qm rfl<|qm rfl<|Qa<|Qo ?_
 have X4 := (((Gr.refl w).trans G1).trans G2)
 cases hm
 refine ⟨_, _, rfl, Qt rfl (Qg rfl), ?_⟩
 exact ⟨rfl, X4⟩
theorem Qx7 {p0 p1 r} (hm : Qhu p0 p1 = some r) {w : World} :
    Calls Tryz.prog 202 [.agg (Xv.cs p0).toArray, .int .i64 p1].toArray w fun e w' => ∃ v, e = .returned v ∧ (∃ bc0 bc1, v = .func (.func 300) #[] [.pointer (some ⟨bc0, 0, none⟩), .pointer (some ⟨bc1, 0, none⟩)].toArray ∧ Bx w' bc0 290 (Xv.cs r.1) ∧ (w.heap.size ≤ bc0) ∧ Bx w' bc1 3 ([.int .i64 r.2]) ∧ (w.heap.size ≤ bc1) ∧ Gr w w') := by
 unfold Qhu at hm
 refine Xe 6 Tryz.func202 rfl rfl rfl<|qs 3 rfl<|qe rfl (Qy (cs := Xv.cs p0) rfl rfl) ?_
 rintro _ w1 ⟨b1, rfl, c, a, G1⟩
 have f := a.lt
 refine qe rfl (Qy (cs := [.int .i64 p1]) rfl rfl) ?_
 rintro _ w2 ⟨b2, rfl, d, b, G2⟩
 refine qm rfl<|qd 2 rfl<|qv rfl (Mv rfl rfl)<|qm rfl<|Qa<|Qo ?_
 have B5 := (a.gr G2)
 have X6 := (((Gr.refl w).trans G1).trans G2)
 cases hm
 refine ⟨_, _, rfl, Qt rfl (Qg rfl), ?_⟩
 exact ⟨b1, b2, rfl, B5, by omega, b, by omega, X6⟩
theorem Qx9 {p0 p1 r} (hm : Ql6 p0 p1 = some r) {w : World} :
    Calls Tryz.prog 301 [.agg (Xv.cs p0).toArray, .int .i64 p1].toArray w fun e w' => ∃ v, e = .returned v ∧ (v = .int .i64 r ∧ Gr w w') := by
 unfold Ql6 at hm
 refine Xe 9 Tryz.func301 rfl rfl rfl<|qs 2 rfl<|qe rfl (Qy (cs := Xv.cs p0) rfl rfl) ?_
 rintro _ w1 ⟨b1, rfl, f, c, G1⟩
 refine qm rfl<|qd 5 rfl<|qv rfl (Qp Vj rfl c rfl) ?_
 obtain ⟨x1, d, hm⟩ := Qc hm
 refine qe rfl (eC Qlw rfl (Ql7 d)) ?_
 rintro _ w2 ⟨rfl, G2⟩
 refine qm rfl<|qv rfl (Zg (k := .i64) (a := x1) (b := p1) rfl rfl)<|qm rfl<|Qa<|Qo ?_
 have X4 := (((Gr.refl w).trans G1).trans G2)
 cases hm
 refine ⟨_, _, rfl, Qt rfl (Qg rfl), ?_⟩
 exact ⟨rfl, X4⟩
theorem Qx2 {p0 r} (hm : Ql3 p0 = some r) {w : World} :
    Calls Tryz.prog 304 [.int .i64 p0].toArray w fun e w' => ∃ v, e = .returned v ∧ (v = .int .i64 r ∧ Gr w w') := by
 unfold Ql3 at hm
 refine Xe 5 Tryz.func304 rfl rfl rfl<|qs 1 rfl<|qm rfl<|qd 3 rfl<|qm rfl<|qv rfl (Qvd (a := p0) (b := 1) (by simp) rfl rfl)<|qm rfl<|Qa<|Qo ?_
 cases hm
 refine ⟨_, _, rfl, Qt rfl (Qg rfl), ?_⟩
 exact ⟨rfl, (Gr.refl w)⟩
theorem Qx6 (p1 : Xv) (p2 : Int) (bp1 : Nat) (bp2 : Nat) (xs : List (Int × Int)) (hm : Qdx p1 p2 = some xs) (w0 : World) (hbp1 : Bx w0 bp1 290 (Xv.cs p1)) (hbp2 : Bx w0 bp2 3 ([.int .i64 p2])) :
    IT Tryz.prog 300 [.pointer (some ⟨bp1, 0, none⟩), .pointer (some ⟨bp2, 0, none⟩)] (xs.map (fun (x : Int × Int) => ([.int .i64 x.1, .int .i64 x.2] : List Value))) ([bp1] ++ [bp2]) w0 := by
 intro l J Jx w fp hG hJ hJx hcap h0 hY
 have c1 := Bx.gr hbp1 hG
 have dc := c1.lt
 have aG : bp1 ∉ fp := hcap _ (by simp)
 have c4 := Bx.gr hbp2 hG
 have de := c4.lt
 have aH : bp2 ∉ fp := hcap _ (by simp)
 have hd := Qle xs
 unfold Qdx at hm
 refine Xe 48 Tryz.func300 rfl rfl rfl<|qs 1 rfl<|qe rfl (Qy rfl rfl) ?_
 rintro _ w1 ⟨b1, rfl, cJ, aI, G1⟩
 have z7 := G1.size
 have df := aI.lt
 have aJ : b1 ∉ fp := fun h => absurd (hJ.lt h0 _ h) (by omega)
 refine qd 4 rfl ?_
 have aK := (c1.gr G1)
 refine qv rfl (Qp Vj rfl aK rfl) ?_
 have aL := (c4.gr G1)
 refine qv rfl (Qd (v := .int .i64 p2) Qv rfl aL rfl) ?_
 obtain ⟨x1, bH, hm⟩ := Qc hm
 refine qe rfl (eC Qz7 rfl (Qx9 bH)) ?_
 rintro _ w2 ⟨rfl, G2⟩
 have bI := (hJ.gr h0 G1)
 have dg := G2.size
 refine qm rfl<|Qa<|Qe<|qs 3 rfl ?_
 have aM := (aI.gr G2)
 refine qv rfl (Qd Qn5 rfl aM rfl) ?_
 have bJ := (hJ.gr bI G2)
 have KI17 : Kp fp w w2 := (((Kp.refl fp w).gr G1).gr G2)
 obtain ⟨rr15, hm, he15⟩ := Qha hm
 have ae := Dr.at hd he15
 have hd15 := Dr.next hd he15
 have bK := (aK.gr G2)
 have bL := (aL.gr G2)
 refine qe rfl (Qb3 rfl rfl (hY _ _ _ _ (Dy ae) bJ KI17 (fun c hc => Or.inl hc))) ?_
 rintro _ w3 ⟨bb, rfl, KF15, n, hg15, hJb⟩
 have di := KF15.size
 have sub15 : ∀ c ∈ n, c ∈ fp ∨ w.heap.size ≤ c := Sp (fun c hc => Or.inl hc) hg15 (by omega)
 have aN := Ku hg15 aG (by omega)
 have aO := Ku hg15 aH (by omega)
 have aP := Ku hg15 aJ (by omega)
 cases bb
 · have Jy15 : Jx (0 + 1) n w3 := hJb
   refine qv rfl (Jb rfl)<|Qa<|Ry rfl<|Qo<|Zf ?_
   have KI24 : Kp fp w w3 := (KI17.trans KF15 (fun c hc => Or.inl hc))
   exact ⟨_, _, rfl, Nl rfl, KI24, .inr ⟨_, _, sub15, (by rw [List.length_map]; exact (List.getElem?_eq_some_iff.1 ae).1), Jy15⟩⟩
 have Jy15 : J (0 + 1) n w3 := hJb
 refine qv rfl (Jb rfl)<|Qa<|Sr rfl<|qu<|qs 2 rfl<|qe rfl (Xh (cs := [.int .i64 0]) Qkk rfl) ?_
 rintro _ w4 ⟨b4, rfl, cK, aQ, G4⟩
 have dj := G4.size
 have cL := aQ.lt
 have af : b4 ∉ n := fun h => absurd (hJ.lt Jy15 _ h) (by omega)
 refine qe rfl (Hn (cs' := [.int .i64 1]) (Hb).siz rfl rfl rfl aQ rfl rfl) ?_
 rintro _ w5 ⟨bM, M5⟩
 have dk := M5.size
 refine Qa<|Xi ?_
 have bN := (hJ.md (hJ.gr Jy15 G4) M5 af)
 have KI30 : Kp fp w w5 := (((KI17.trans KF15 (fun c hc => Or.inl hc)).gr G4).md M5 (Or.inr (by omega)))
 have bO := (((Bx.kp bK KF15 aG).gr G4).md M5)
 have bP := (((Bx.kp bL KF15 aH).gr G4).md M5)
 have bQ := (((Bx.kp aM KF15 aJ).gr G4).md M5)
 refine Xh4 (α := Nat × Int × Nat × Nat × List Nat × List (Int × Int)) ([5, 6, 7] ++ rg 14 34) (fun ⟨n1, a2, bq1_5, kk, fpl, rl⟩ => [(5, .pointer (some ⟨bq1_5, 0, none⟩))]) (fun ⟨n1, a2, bq1_5, kk, fpl, rl⟩ ks wr => (Qr (Qhw p1 x1) n1 a2 = some rl) ∧ Dr xs kk rl ∧ J kk fpl wr ∧ (∀ c ∈ fpl, c ∈ fp ∨ w.heap.size ≤ c) ∧ Kp fp w wr ∧ Bx wr bp1 290 (Xv.cs p1) ∧ Bx wr bp2 3 ([.int .i64 p2]) ∧ Bx wr b1 379 [.func (.yield l) #[] #[]] ∧ bp1 ∉ fpl ∧ bp2 ∉ fpl ∧ b1 ∉ fpl ∧ Bx wr bq1_5 298 ([.int .i64 a2]) ∧ bq1_5 ∉ fpl ∧ w.heap.size ≤ bq1_5 ∧ bq1_5 ≠ bp1 ∧ bq1_5 ≠ bp2 ∧ bq1_5 ≠ b1 ∧ Kf w.heap.size ks fpl wr) (fun ⟨n1, a2, bq1_5, kk, fpl, rl⟩ => n1) ⟨Xb, 1, b4, (0 + 1), n, rr15⟩ [] rfl ?_ ?_ ?_
 · exact Qf
 · exact ⟨hm, hd15, bN, sub15, KI30, bO, bP, bQ, aN, aO, aP, bM, af, (by omega), (by omega), (by omega), (by omega), (Xco w.heap.size n w5)⟩
 clear hm; rintro ⟨n1, a2, bq1_5, ad, fpl1, rl1⟩ ks1 w6 ⟨hm, dl1, JLw6, sl1, KLw6, o, D, E, f, g, d, m, e, bR, bS, bT, bU, MKw6⟩
 have dl := KLw6.size
 have cM := o.lt
 have cN := D.lt
 have cO := E.lt
 have cP := m.lt
 have hb := Zx hm; clear hm; obtain ⟨n1, rfl, hm⟩ := hb
 generalize T : Qr (Qhw p1 x1) n1 = ag at hm
 unfold Qhw at hm
 try dsimp only at hm
 refine Qe<|qs 3 rfl<|qv rfl (Qd (v := .int .i64 a2) Hb rfl m rfl)<|qm rfl<|qv rfl (Jw (a := a2) (b := x1) rfl rfl)<|Qa<|Zu rfl (fun c1 => ?_) (fun c1 => ?_)
 · replace hm := iF c1 hm
   refine Zl<|Xk<|Xk<|Zk ?_
   obtain ⟨bV, ao, U⟩ := Kf.leave MKw6
   have ap := Kf.stb hJ MKw6 JLw6 U
   have aq := Kf.trans MKw6 KLw6 U
   have he := Option.some.inj hm
   have hl := Dr.last (c := (fun (x : Int × Int) => ([.int .i64 x.1, .int .i64 x.2] : List Value))) dl1 he.symm
   refine ⟨_, _, ao, Nl rfl, aq, .inl ⟨_, sl1, ?_⟩⟩
   rw [← hl]; exact ap
 replace hm := iT c1 hm
 refine qu<|Qe<|Xi<|Qe<|qs 3 rfl<|qv rfl (Qb Et rfl)<|qv rfl (Qd (v := bv p1.kind) Xs rfl o rfl)<|qv rfl (Yz (p := p1.kind) (q := 1#8) rfl rfl)<|Qa<|Xj rfl (fun c2 => ?_) (fun c2 => ?_)
 · replace hm := iT c2 hm
   refine Qe<|Qe<|dw [fpl1] [] (.leaf [(0,10),(1,10),(2,10),(3,0),(4,0),(5,0)]) ?_
   intro w7 G7 dp
   refine Zj ?_
   have aR := (E.gr G7)
   refine qh 0 rfl rfl (Kp.refl fpl1 w7) (fun w hS => Qd Qn5 rfl (Bx.kp aR hS d) rfl) ?_
   have aS := (m.gr G7)
   refine qh 0 rfl rfl (Kp.refl fpl1 w7) (fun w hS => Qd (v := .int .i64 a2) Hb rfl (Bx.kp aS hS e) rfl)<|dn 0 rfl rfl (Kp.refl fpl1 w7) ?_
   obtain ⟨x3, bW, hm⟩ := Qc hm
   refine qz [] rfl (eC Qi5 rfl (Qhs bW)) ⟨fun _ => Qj, trivial⟩ ?_
   rintro _ w8 ⟨rfl, G8⟩
   have bX := (hJ.gr JLw6 G7)
   have dq := G8.size
   refine kG G8 ?_
   have bY := (hJ.gr bX G8)
   have Y1 := Gr.trans G7 G8
   have KI45 : Kp fp w w8 := (KLw6.gr Y1)
   obtain ⟨rr43, hm, he43⟩ := Qha hm
   have ah := Dr.at dl1 he43
   have hd43 := Dr.next dl1 he43
   have bZ := (o.gr Y1)
   have b0 := (D.gr Y1)
   have b2 := (aR.gr G8)
   have b3 := (aS.gr G8)
   refine Qxj rfl rfl rfl (Qb3 rfl rfl (hY _ _ _ _ (Dy ah) bY KI45 sl1)) ?_
   rintro _ w9 ⟨bb, rfl, KF43, u, hg43, hJb⟩
   refine ⟨fun S => Kp.trans S KF43 (fun b hb => Or.inl hb), ?_⟩
   have dr := KF43.size
   have sub43 : ∀ c ∈ u, c ∈ fp ∨ w.heap.size ≤ c := Sp sl1 hg43 (by omega)
   have MK51 := (MKw6.gr Y1)
   have MK43 := Kf.kp MK51 KF43 hg43
   have aT := Ku hg43 f (by omega)
   have aU := Ku hg43 g (by omega)
   have aV := Ku hg43 d (by omega)
   have cQ := Ku hg43 e (by omega)
   cases bb
   · have Jy43 : Jx (ad + 1) u w9 := hJb
     refine qw rfl (Jb rfl)<|Qa<|Ry rfl<|Qo<|Zf<|Zf<|Zz<|Zf<|Zf<|Zz ?_
     have KI56 : Kp fp w w9 := (KI45.trans KF43 sl1)
     obtain ⟨cR, aW, ai⟩ := Kf.leave MK43
     have aX := Kf.stb hJx MK43 Jy43 ai
     have aY := Kf.trans MK43 KI56 ai
     exact ⟨_, _, aW, Nl rfl, aY, .inr ⟨_, _, sub43, (by rw [List.length_map]; exact (List.getElem?_eq_some_iff.1 ah).1), aX⟩⟩
   have Jy43 : J (ad + 1) u w9 := hJb
   refine qw rfl (Jb rfl)<|Qa<|Sr rfl<|qu<|Zl<|Xk<|Zk<|Xl<|Qe<|qs 1 rfl ?_
   have b5 := (Bx.kp b3 KF43 e)
   refine qv rfl (Qd (v := .int .i64 a2) Hb rfl b5 rfl)<|Qa<|qg 2 rfl<|qe rfl (Xh (cs := [.int .i64 0]) Qkk rfl) ?_
   rintro _ ds ⟨aZ, rfl, b6, V, F⟩
   have dt := F.size
   have cS := V.lt
   have X : aZ ∉ u := fun h => absurd (hJ.lt Jy43 _ h) (by omega)
   refine qe rfl (Hn (cs' := [.int .i64 a2]) (Hb).siz rfl rfl rfl V rfl rfl) ?_
   rintro _ du ⟨aj, G⟩
   have b7 := (hJ.gr Jy43 F)
   have MK63 := (MK43.gr F)
   have dv := G.size
   refine Qa<|qg 4 rfl<|qv rfl (Qd (v := .int .i64 a2) Hb rfl aj rfl)<|qm rfl ?_
   obtain ⟨x4, b8, hm⟩ := Qc hm
   refine qe rfl (eC Qi5 rfl (Qhs b8)) ?_
   rintro _ dy ⟨rfl, y⟩
   have b9 := (hJ.md b7 G X)
   have dz := y.size
   have a0 := (aj.gr y)
   refine qe rfl (Hn (cs' := [.int .i64 x4]) (Hb).siz rfl rfl rfl a0 rfl rfl) ?_
   rintro _ ca ⟨a1, H⟩
   have cb := (hJ.gr b9 y)
   have MK69 := ((MK63.md G V).gr y)
   have dA := H.size
   refine Qh ?_
   have cc := (hJ.md cb H X)
   have KI72 : Kp fp w ca := (((((KI45.trans KF43 sl1).gr F).md G (Or.inr (by omega))).gr y).md H (Or.inr (by omega)))
   have cd := (((((Bx.kp bZ KF43 f).gr F).md G).gr y).md H)
   have ce := (((((Bx.kp b0 KF43 g).gr F).md G).gr y).md H)
   have cf := (((((Bx.kp b2 KF43 d).gr F).md G).gr y).md H)
   have MK76 := (MK69.md H a0)
   subst T
   exact ⟨⟨n1, x4, aZ, (ad + 1), u, rr43⟩, ks1, rfl, Qf, ⟨hm, hd43, cc, sub43, KI72, cd, ce, cf, aT, aU, aV, a1, X, (by omega), (by omega), (by omega), (by omega), MK76⟩, Nat.lt_succ_self _⟩
 replace hm := iF c2 hm
 refine qu<|qs 3 rfl<|qv rfl (Qd (v := .int .i64 a2) Hb rfl m rfl)<|qm rfl ?_
 obtain ⟨x5, cg, hm⟩ := Qc hm
 refine qe rfl (eC Qlx rfl (Ql5 cg)) ?_
 rintro _ ar ⟨P, Q, rfl, j, aE, k, aF, z⟩
 have dB := z.size
 have cT := j.lt
 have A : P ∉ fpl1 := fun h => absurd (hJ.lt JLw6 _ h) (by omega)
 have cU := k.lt
 have B : Q ∉ fpl1 := fun h => absurd (hJ.lt JLw6 _ h) (by omega)
 refine Qa<|Xi ?_
 obtain ⟨l6, ch, hm⟩ := Qc hm
 have ci := (hJ.gr JLw6 z)
 have KI83 : Kp fp w ar := (KLw6.gr z)
 have a3 := (o.gr z)
 have a4 := (D.gr z)
 have a5 := (E.gr z)
 have a6 := (m.gr z)
 have MK88 := (MKw6.gr z)
 have MZ89 := MK88
 refine Oe (gf := 353) rfl Qm0 (Ql4 x5.1 x5.2 _ _ _ ch _ j k) (by intro x hx; obtain ⟨a, _, rfl⟩ := List.mem_map.1 hx; rfl) rfl _ _ fpl1 (Od (α := Nat × List Nat × (List (Int × Int))) (fun ⟨kk, fpl, rl⟩ rk => (Vf (Qhx p1 a2) (Qhv x1 a2 ag) (List.drop rk l6) () = some rl) ∧ Dr xs kk rl ∧ (∀ c ∈ fpl, c ∈ fp ∨ w.heap.size ≤ c) ∧ (∀ c ∈ fpl, c ∈ fpl1 ∨ ar.heap.size ≤ c)) (fun ⟨kk, fpl, rl⟩ => fpl) (fun ⟨kk, fpl, rl⟩ W => J kk fpl W) (by rintro ⟨kk, fpl, rl⟩ W h b hb; exact hJ.lt h b hb) (by rintro ⟨kk, fpl, rl⟩ W W' h he hs; exact hJ.keep h he hs)) (fun c => Quz (c = .ret) (Od (α := Nat × List Nat) (fun ⟨kk, fpl⟩ rk => kk ≤ xs.length ∧ (∀ c ∈ fpl, c ∈ fp ∨ w.heap.size ≤ c) ∧ (∀ c ∈ fpl, c ∈ fpl1 ∨ ar.heap.size ≤ c)) (fun ⟨kk, fpl⟩ => fpl) (fun ⟨kk, fpl⟩ W => Jx kk fpl W) (by rintro ⟨kk, fpl⟩ W h b hb; exact hJx.lt h b hb) (by rintro ⟨kk, fpl⟩ W W' h he hs; exact hJx.keep h he hs))) (by intro b hb; simp only [List.mem_cons, List.mem_append, Jj, List.not_mem_nil, or_false, false_or, not_or, ne_eq, List.nil_append, List.cons_append, true_and, and_true, false_and, and_false, not_true_eq_false, not_false_eq_true, or_true, true_or] at hb; rcases hb with rfl | rfl <;> first | exact ⟨A, by omega⟩ | exact ⟨B, by omega⟩) ⟨(ad, fpl1, rl1), ⟨hm, dl1, sl1, fun c hc => Or.inl hc⟩, rfl, ci⟩ ?_ ?_ ?_
 · rintro l2 rk x fpr2 cj hl hx hIr r hF hln Jt
   clear hm
   obtain ⟨e7, hxe, rfl⟩ := map_some hx
   obtain ⟨⟨_, fpa, _⟩, ⟨_, _, sa, sz⟩, ea, Ja⟩ := hIr
   replace ea : fpr2 = fpa := ea
   subst ea
   replace Ja : J _ fpr2 cj := Ja
   have dC := r.size
   have a7 := Ku hF f (by omega)
   have a8 := Ku hF g (by omega)
   have a9 := Ku hF d (by omega)
   have ba := Ku hF e (by omega)
   have bd := Ku hF A (by omega)
   have bf := Ku hF B (by omega)
   have MKw15 := Kf.kp MZ89 r hF
   refine qg 1 rfl<|qm rfl<|Qh<|⟨rfl, (Gr.refl _), ?_⟩
   rintro s t ⟨⟨kr2, fpb, rl2⟩, ⟨hm, dr2, sr2, s0r2⟩, eb, Jr2⟩
   replace eb : fpr2 = fpb := eb
   subst eb
   replace Jr2 : J kr2 fpr2 s := Jr2
   have dD := t.size
   replace hm := Qew hm hxe
   generalize hnx2 : Vf (Qhx p1 a2) (Qhv x1 a2 ag) (List.drop (rk + 1) l6) = dE at hm
   unfold Qhx at hm
   try dsimp only at hm
   refine Xi<|qs 3 rfl<|qm rfl ?_
   obtain ⟨x8, ck, hm⟩ := Qc hm
   refine qe rfl (eC Qz8 rfl (Qx2 ck)) ?_
   rintro _ dF ⟨rfl, R⟩
   have dG := R.size
   refine qm rfl<|qd 12 rfl ?_
   have bg := (((Bx.kp a3 r f).md t).gr R)
   refine qv rfl (Qp Vj rfl bg rfl) ?_
   have ak := (((Bx.kp a6 r e).md t).gr R)
   refine qv rfl (Qd (v := .int .i64 a2) Hb rfl ak rfl)<|qm rfl<|qv rfl (Zv (cs := Xo.cs (Xo.mk a2 x8)) Qdb rfl rfl) ?_
   obtain ⟨x9, cl, hm⟩ := Qc hm
   refine qe rfl (eC Qlq rfl (Ql8 cl)) ?_
   rintro _ cm ⟨rfl, I⟩
   have al := (hJ.gr Jr2 R)
   have cV := I.size
   refine Jh rfl (Qm rfl) (fun c3 => ?_) (fun c3 => ?_)
   · replace hm := Xw c3 hm
     refine qk rfl<|qk rfl<|qk rfl<|qk rfl<|qk rfl<|qm rfl<|Qa<|Sr rfl<|Vi<|Xy ?_
     have bh := (hJ.gr al I)
     subst hnx2
     have Y2 := Gr.trans R I
     exact ⟨((Kp.refl fpr2 s).gr Y2), fpr2, (fun c hc => Or.inl hc : ∀ c ∈ fpr2, c ∈ fpr2 ∨ s.heap.size ≤ c), (kr2, fpr2, rl2), ⟨hm, dr2, sr2, (Sp s0r2 (fun c hc => Or.inl hc : ∀ c ∈ fpr2, c ∈ fpr2 ∨ s.heap.size ≤ c) (by omega))⟩, rfl, bh⟩
   replace hm := Xx c3 hm
   have Y3 := Gr.trans R I
   have bi := (((Bx.kp a5 r d).md t).gr Y3)
   refine qv rfl (Qd Qn5 rfl bi rfl) ?_
   have bj := (ak.gr I)
   refine qv rfl (Qd (v := .int .i64 a2) Hb rfl bj rfl)<|qm rfl ?_
   have bk := (hJ.gr al I)
   have KI107 : Kp fp w cm := (((KI83.trans r sl1).md t (Or.inr (by omega))).gr Y3)
   obtain ⟨rr105, hm, he105⟩ := Qha hm
   have Y := Dr.at dr2 he105
   have hd105 := Dr.next dr2 he105
   have cW := (bg.gr I)
   have cX := (((Bx.kp a4 r g).md t).gr Y3)
   have cY := (((Bx.kp j r A).md t).gr Y3)
   have cZ := (((Bx.kp k r B).md t).gr Y3)
   refine qe rfl (Qb3 rfl rfl (hY _ _ _ _ (Dy Y) bk KI107 sr2)) ?_
   rintro _ bl ⟨bb, rfl, KF105, i, hg105, hJb⟩
   have c0 := KF105.size
   have sub105 : ∀ c ∈ i, c ∈ fp ∨ w.heap.size ≤ c := Sp sr2 hg105 (by omega)
   have subr105 := Sp (fun c hc => Or.inl hc : ∀ c ∈ fpr2, c ∈ fpr2 ∨ s.heap.size ≤ c) hg105 (by omega)
   have MK113 := ((Kf.mdl MKw15 t MZ89 hl).gr Y3)
   have MK105 := Kf.kp MK113 KF105 hg105
   have cn := Ku hg105 a7 (by omega)
   have co := Ku hg105 a8 (by omega)
   have cp := Ku hg105 a9 (by omega)
   have cq := Ku hg105 ba (by omega)
   have cr := Ku hg105 bd (by omega)
   have ct := Ku hg105 bf (by omega)
   cases bb
   · have Jy105 : Jx (kr2 + 1) i bl := hJb
     refine qv rfl (Jb rfl)<|qm rfl<|Qa<|Ry rfl<|Qo<|Zz ?_
     exact ⟨(((Kp.refl fpr2 s).gr Y3).trans KF105 (fun c hc => Or.inl hc : ∀ c ∈ fpr2, c ∈ fpr2 ∨ s.heap.size ≤ c)), i, subr105, rfl, ((kr2 + 1), i), ⟨(List.getElem?_eq_some_iff.1 Y).1, sub105, (Sp s0r2 subr105 (by omega))⟩, rfl, Jy105⟩
   have Jy105 : J (kr2 + 1) i bl := hJb
   refine qv rfl (Jb rfl)<|qm rfl<|Qa<|Sr rfl<|Vi<|Xy ?_
   subst hnx2
   exact ⟨(((Kp.refl fpr2 s).gr Y3).trans KF105 (fun c hc => Or.inl hc : ∀ c ∈ fpr2, c ∈ fpr2 ∨ s.heap.size ≤ c)), i, subr105, ((kr2 + 1), i, rr105), ⟨hm, hd105, sub105, (Sp s0r2 subr105 (by omega))⟩, rfl, Jy105⟩
 · clear hm; rintro bm fpdw20 bo au Z bp ⟨⟨kd, fpe, rd⟩, ⟨hm, dd, sd, s0d⟩, ed, Jd⟩ K
   replace ed : fpdw20 = fpe := ed
   subst ed
   replace Jd : J kd fpdw20 bo := Jd
   have c5 := K.size
   have cu := Df.lt (w := bo) Z
   have av := Ku s0d f (by omega)
   have aw := Ku s0d g (by omega)
   have ax := Ku s0d d (by omega)
   have cv := Ku s0d e (by omega)
   have cw := Ku s0d A (by omega)
   have cx := Ku s0d B (by omega)
   have MKw20 := Kf.cons (Kf.kp MZ89 K s0d) MZ89 au (by omega) Z bp
   replace hm := Qex hm
   unfold Qhv at hm
   try dsimp only at hm
   refine Xy<|Xy<|Xl<|Qe<|qs 1 rfl ?_
   have bq := (Bx.kp a6 K e)
   refine qv rfl (Qd (v := .int .i64 a2) Hb rfl bq rfl)<|Qa<|qg 2 rfl<|qe rfl (Xh (cs := [.int .i64 0]) Qkk rfl) ?_
   rintro _ dH ⟨br, rfl, cy, aa, L⟩
   have c6 := L.size
   have cz := aa.lt
   have M : br ∉ fpdw20 := fun h => absurd (hJ.lt Jd _ h) (by omega)
   refine qe rfl (Hn (cs' := [.int .i64 a2]) (Hb).siz rfl rfl rfl aa rfl rfl) ?_
   rintro _ dI ⟨am, N⟩
   have bs := (hJ.gr Jd L)
   have MK137 := (MKw20.gr L)
   have c7 := N.size
   refine Qa<|qg 4 rfl<|qv rfl (Qd (v := .int .i64 a2) Hb rfl am rfl)<|qm rfl ?_
   obtain ⟨bu, bx, hm⟩ := Qc hm
   refine qe rfl (eC Qi5 rfl (Qhs bx)) ?_
   rintro _ dJ ⟨rfl, C⟩
   have bz := (hJ.md bs N M)
   have c8 := C.size
   have an := (am.gr C)
   refine qe rfl (Hn (cs' := [.int .i64 bu]) (Hb).siz rfl rfl rfl an rfl rfl) ?_
   rintro _ cA ⟨bA, O⟩
   have bB := (hJ.gr bz C)
   have MK143 := ((MK137.md N aa).gr C)
   have c9 := O.size
   refine Qh ?_
   have bC := (hJ.md bB O M)
   have KI146 : Kp fp w cA := (((((KI83.trans K sl1).gr L).md N (Or.inr (by omega))).gr C).md O (Or.inr (by omega)))
   have bD := (((((Bx.kp a3 K f).gr L).md N).gr C).md O)
   have bE := (((((Bx.kp a4 K g).gr L).md N).gr C).md O)
   have bF := (((((Bx.kp a5 K d).gr L).md N).gr C).md O)
   have MK150 := (MK143.md O an)
   subst T
   exact ⟨⟨n1, bu, br, kd, fpdw20, rd⟩, (bm :: ks1), rfl, Qf, ⟨hm, dd, bC, sd, KI146, bD, bE, bF, av, aw, ax, bA, M, (by omega), (by omega), (by omega), (by omega), MK150⟩, Nat.lt_succ_self _⟩
 clear hm; rintro da c rk fpdw25 ay az ab bG hle ⟨rfl, ⟨kd, fpe⟩, ⟨led, sd, s0d⟩, ed, Jd⟩ aA
 replace ed : fpdw25 = fpe := ed
 subst ed
 replace Jd : Jx kd fpdw25 ay := Jd
 have db := aA.size
 have cB := Df.lt (w := ay) ab
 have cC := Ku s0d f (by omega)
 have cD := Ku s0d g (by omega)
 have cE := Ku s0d d (by omega)
 have cF := Ku s0d e (by omega)
 have cG := Ku s0d A (by omega)
 have cH := Ku s0d B (by omega)
 have MKw25 := Kf.cons (Kf.kp MZ89 aA s0d) MZ89 az (by omega) ab bG
 refine Qo<|Zz<|Zz<|Zf<|Zf<|Zz ?_
 have KI159 : Kp fp w ay := (KI83.trans aA sl1)
 obtain ⟨cI, aB, ac⟩ := Kf.leave MKw25
 have aC := Kf.stb hJx MKw25 Jd ac
 have aD := Kf.trans MKw25 KI159 ac
 exact ⟨_, _, aB, Nl rfl, aD, .inr ⟨_, _, sd, (by rw [List.length_map]; exact led), aC⟩⟩
theorem Ql1 {p0 p1 r} (hm : Uu p0 p1 = some r) {w : World} :
    Calls Tryz.prog 205 [kv p0, .int .i64 p1].toArray w fun e w' => ∃ v, e = .returned v ∧ (v = kv r ∧ Gr w w') := by
 unfold Uu at hm
 refine Xe 9 Tryz.func205 rfl rfl rfl<|qs 2 rfl<|qe rfl (Qy (cs := kb p0) rfl rfl) ?_
 rintro _ w1 ⟨b1, rfl, d, a, G1⟩
 have g := a.lt
 refine qe rfl (Xh (cs := kb k0) Zh rfl) ?_
 rintro _ w2 ⟨b2, rfl, f, b, G2⟩
 refine qd 5 rfl ?_
 have B5 := (a.gr G2)
 refine qv rfl (Qp Ql rfl B5 rfl)<|qm rfl<|qv rfl (Yb Qxd rfl)<|qe rfl (eC Ty rfl (Tx p0 (Xf 30#8) (Vy _) (Vx _) (wd p1) _)) ?_
 rintro _ w3 ⟨rfl, G3⟩
 have B7 := (b.gr G3)
 refine qe rfl (Qx Ql rfl rfl rfl B7 rfl rfl) ?_
 rintro _ w4 ⟨c, M4⟩
 refine Qa<|Qo ?_
 have X9 := (((((Gr.refl w).trans G1).trans G2).trans G3).md M4)
 cases hm
 refine ⟨_, _, rfl, Qt rfl (Xr Ql rfl c rfl), ?_⟩
 exact ⟨rfl, X9⟩
theorem Qkz {p0 p1 p2 r} (hm : Ff p0 p1 p2 = some r) {w : World} :
    Calls Tryz.prog 204 [kv p0, .int .i64 p1, .int .i64 p2].toArray w fun e w' => ∃ v, e = .returned v ∧ (v = kv r ∧ Gr w w') := by
 unfold Ff at hm
 refine Xe 20 Tryz.func204 rfl rfl rfl<|qs 2 rfl<|qe rfl (Qy (cs := kb p0) rfl rfl) ?_
 rintro _ w1 ⟨b1, rfl, P, m, G1⟩
 have S := m.lt
 refine qe rfl (Xh (cs := kb k0) Zh rfl) ?_
 rintro _ w2 ⟨b2, rfl, Q, n, G2⟩
 have T := n.lt
 refine Qa<|Qe<|qs 3 rfl<|qm rfl<|qm rfl ?_
 obtain ⟨x1, D, hm⟩ := Qc hm
 refine qe rfl (eC Qlx rfl (Ql5 D)) ?_
 rintro _ w3 ⟨o, p, rfl, d, q, f, s, G3⟩
 have U := d.lt
 have V := f.lt
 refine Qa<|Xi ?_
 obtain ⟨l2, F, hm⟩ := Qc hm
 have X8 := ((((Gr.refl w).trans G1).trans G2).trans G3)
 have B9 := ((m.gr G2).gr G3)
 have G := (n.gr G3)
 refine Oe (gf := 353) rfl Qm0 (Ql4 x1.1 x1.2 _ _ _ F _ d f) (by intro x hx; obtain ⟨a, _, rfl⟩ := List.mem_map.1 hx; rfl) rfl _ (fun _ _ _ _ => False) ([b1]) (Od (α := W2) (fun a4 rk => Vf Qaa Qdr (List.drop rk l2) a4 = some r) (fun a4 => ([b1])) (fun a4 W => Bx W b1 23 (kb a4) ∧ True) (by rintro a4 W ⟨F0, _⟩ b hb; have q0 := F0.lt; replace hb : b ∈ ([b1]) := hb; simp only [List.mem_cons, List.mem_append, Jj, List.not_mem_nil, or_false, false_or, not_or, ne_eq, List.nil_append, List.cons_append, true_and, and_true, false_and, and_false, not_true_eq_false, not_false_eq_true, or_true, true_or] at hb; omega) (by rintro a4 W W' ⟨F0, _⟩ E hs; replace hs : ∀ b ∈ ([b1]), W'.heap[b]? = W.heap[b]? := hs; exact ⟨(hs _ (by simp)).trans F0, trivial⟩)) (fun _ => Qgz) (by intro b hb; simp only [List.mem_cons, List.mem_append, Jj, List.not_mem_nil, or_false, false_or, not_or, ne_eq, List.nil_append, List.cons_append, true_and, and_true, false_and, and_false, not_true_eq_false, not_false_eq_true, or_true, true_or] at hb ⊢; omega) ⟨p0, hm, rfl, B9, trivial⟩ ?_ ?_ ?_
 · rintro l rk x fp w4 hl hx _ K4 hF hln Jt
   clear hm
   obtain ⟨e5, hxe, rfl⟩ := map_some hx
   have X : Kz [(1, b1)] w3 w4 := Fv K4 (by intro k hk; simp only [Jp, and_true, List.mem_cons, List.mem_append, Jj, List.not_mem_nil, or_false, false_or, not_or, ne_eq, List.nil_append, List.cons_append, true_and, and_true, false_and, and_false, not_true_eq_false, not_false_eq_true, or_true, true_or] at hk ⊢; omega)
   refine qg 1 rfl<|qm rfl<|Qh<|⟨rfl, (Gr.refl _), ?_⟩
   rintro w5 M5 ⟨a4, hm, rfl, g, -⟩
   replace hm := Qew hm hxe
   generalize hnx1 : Vf Qaa Qdr (List.drop (rk + 1) l2) = H at hm
   unfold Qaa at hm
   try dsimp only at hm
   refine Xi<|qs 1 rfl<|qm rfl<|Qa ?_
   refine qj (β := BitVec 8) [8, 13, 14, 15] (fun a6 => [(8, bv a6)]) (fun a6 wr => (Qds a4 H a6 = some r) ∧ Kz [] w5 wr) ?_ ?_
   · refine qs 3 rfl<|qm rfl ?_
     obtain ⟨x7, I, hm⟩ := Qc hm
     refine qv rfl (Hm (a := e5) (b := 2) rfl rfl I)<|qv rfl (Jr (a := x7) (b := 1) rfl rfl)<|Qa<|Zu rfl (fun c1 => ?_) (fun c1 => ?_)
     · replace hm := iF c1 hm
       refine Vi ?_
       exact ⟨rfl, 31#8, Qf, hm, Qz⟩
     replace hm := iT c1 hm
     refine qg 1 rfl<|qm rfl<|Qh ?_
     exact ⟨rfl, 32#8, Qf, hm, Qz⟩
   clear hm; rintro a6 w6 ⟨hm, K6⟩
   unfold Qds at hm
   refine qg 4 rfl ?_
   have t := (g.kz K6)
   refine qv rfl (Qp Ql rfl t rfl)<|qm rfl<|qe rfl (eC Ty rfl (Tx a4 (Xf a6) (Vy _) (Vx _) 0#64 _)) ?_
   rintro _ w7 ⟨rfl, G7⟩
   have J := (t.gr G7)
   refine qe rfl (Qx Ql rfl rfl rfl J rfl rfl) ?_
   rintro _ w8 ⟨K, M8⟩
   refine Qh<|Xy ?_
   have K_20 : Kz [(1, b1)] w5 w8 := (((Kz.kz (Kz.refl _ _) K6).gr G7).md M8)
   have Kq20 : Kp ([b1]) w5 w8 := Qez K_20 (by intro k hk; simp only [Jp, and_true, List.mem_cons, List.mem_append, Jj, List.not_mem_nil, or_false, false_or, not_or, ne_eq, List.nil_append, List.cons_append, true_and, and_true, false_and, and_false, not_true_eq_false, not_false_eq_true, or_true, true_or] at hk ⊢; omega)
   subst hnx1
   exact ⟨Kq20, ([b1]), (by intro c hc; simp only [List.mem_cons, List.mem_append, Jj, List.not_mem_nil, or_false, false_or, not_or, ne_eq, List.nil_append, List.cons_append, true_and, and_true, false_and, and_false, not_true_eq_false, not_false_eq_true, or_true, true_or] at hc ⊢; omega), ⟨Jk a4 (Xf a6) 0#64, hm, rfl, K, trivial⟩⟩
 · clear hm; rintro i fp w9 R u L ⟨a4, hm, rfl, j, -⟩ K9
   replace hm := Qex hm
   have y : Kz [(1, b1)] w3 w9 := Fv K9 (by intro k hk; simp only [Jp, and_true, List.mem_cons, List.mem_append, Jj, List.not_mem_nil, or_false, false_or, not_or, ne_eq, List.nil_append, List.cons_append, true_and, and_true, false_and, and_false, not_true_eq_false, not_false_eq_true, or_true, true_or] at hk ⊢; omega)
   simp only [List.mem_cons, List.mem_append, Jj, List.not_mem_nil, or_false, false_or, not_or, ne_eq, List.nil_append, List.cons_append, true_and, and_true, false_and, and_false, not_true_eq_false, not_false_eq_true, or_true, true_or, not_and] at L
   unfold Qdr at hm
   try dsimp only at hm
   refine Xy<|Xl<|qs 2 rfl<|qv rfl (Qp Ql rfl j rfl) ?_
   have M := (G.kz y)
   refine qe rfl (Qx Ql rfl rfl rfl M rfl rfl) ?_
   rintro _ z ⟨A, B⟩
   refine Qa<|Qo ?_
   have DL28 := (Df.md u B)
   have C := Md.put (w := z) i (.deferred none)
   have N := (A.md C)
   have O : Gr w (z.putObj i (.deferred none)) := (((X8.kz y).md B).md C)
   cases hm
   refine ⟨_, _, ⟨i, rfl, DL28, rfl⟩, Qt rfl (Xr Ql rfl N rfl), ?_⟩
   exact ⟨rfl, O⟩
 rintro _ _ _ _ _ _ _ _ _ h _
 exact h.elim
theorem Qpq {p0 r} (hm : Qhr p0 = some r) {w : World} :
    Calls Tryz.prog 305 [kv p0].toArray w fun e w' => ∃ v, e = .returned v ∧ (v = kv r ∧ Gr w w') := by
 unfold Qhr at hm
 refine Xe 5 Tryz.func305 rfl rfl rfl<|qs 2 rfl<|qe rfl (Qy (cs := kb p0) rfl rfl) ?_
 rintro _ w1 ⟨b1, rfl, d, a, G1⟩
 have g := a.lt
 refine qe rfl (Xh (cs := kb k0) Zh rfl) ?_
 rintro _ w2 ⟨b2, rfl, f, b, G2⟩
 refine qd 3 rfl ?_
 have B5 := (a.gr G2)
 refine qv rfl (Qp Ql rfl B5 rfl)<|qe rfl (eC Ty rfl (Tx p0 (Xf 33#8) (Vy _) (Vx _) 0#64 _)) ?_
 rintro _ w3 ⟨rfl, G3⟩
 have B7 := (b.gr G3)
 refine qe rfl (Qx Ql rfl rfl rfl B7 rfl rfl) ?_
 rintro _ w4 ⟨c, M4⟩
 refine Qa<|Qo ?_
 have X9 := (((((Gr.refl w).trans G1).trans G2).trans G3).md M4)
 cases hm
 refine ⟨_, _, rfl, Qt rfl (Xr Ql rfl c rfl), ?_⟩
 exact ⟨rfl, X9⟩
theorem Qx5 {p0 p1 p2 r} (hm : Qdw p0 p1 p2 = some r) {w : World} :
    Calls Tryz.prog 203 [.agg (Xv.cs p0).toArray, kv p1, .agg (Xo.cs p2).toArray].toArray w fun e w' => ∃ v, e = .returned v ∧ (v = kv r ∧ Gr w w') := by
 unfold Qdw at hm
 refine Xe 32 Tryz.func203 rfl rfl rfl<|qs 4 rfl<|qe rfl (Qy (cs := Xv.cs p0) rfl rfl) ?_
 rintro _ w1 ⟨b1, rfl, H, f, G1⟩
 have L := f.lt
 refine qe rfl (Qy (cs := kb p1) rfl rfl) ?_
 rintro _ w2 ⟨b2, rfl, I, c, G2⟩
 have M := c.lt
 refine qe rfl (Qy (cs := Xo.cs p2) rfl rfl) ?_
 rintro _ w3 ⟨b3, rfl, J, g, G3⟩
 have N := g.lt
 refine qe rfl (Xh (cs := kb k0) Zh rfl) ?_
 rintro _ w4 ⟨b4, rfl, K, d, G4⟩
 refine Qa<|Qe<|dw [([])] [] (.leaf [(0,10),(1,10),(2,10),(3,10),(4,10),(5,10)]) ?_
 intro w5 G5 O
 refine Zj<|dh 0 rfl rfl (fun w hS => Qb Wt rfl) ?_
 have Y1 := Gr.trans G4 G5
 have B9 := (g.gr Y1)
 refine dh 0 rfl rfl (fun w hS => Qd (v := .int .i64 p2.Node) Qv rfl (Bx.kp B9 hS) rfl)<|dh 0 rfl rfl (fun w hS => Qb Vu rfl)<|dh 0 rfl rfl (fun w hS => Qd (v := .int .i64 p2.Minus) Qv rfl (Bx.kp B9 hS) rfl)<|dm 0 rfl rfl<|dm 0 rfl rfl<|Qa<|Qe<|Xi<|qs 4 rfl<|qv rfl (Qb Et rfl) ?_
 have Y2 := Gr.trans (Gr.trans G2 G3) Y1
 have l := (f.gr Y2)
 refine qv rfl (Qd (v := bv p0.kind) Xs rfl l rfl)<|qv rfl (Yz (p := p0.kind) (q := 1#8) rfl rfl)<|qm rfl<|Qa<|Xj rfl (fun c1 => ?_) (fun c1 => ?_)
 · replace hm := iT c1 hm
   refine qs 4 rfl ?_
   have Y3 := Gr.trans G3 Y1
   have m := (c.gr Y3)
   refine qv rfl (Qp Ql rfl m rfl)<|qm rfl ?_
   obtain ⟨x1, n, hm⟩ := Qc hm
   refine qe rfl (eC Qlp rfl (Ql1 n)) ?_
   rintro _ w6 ⟨rfl, G6⟩
   have o := ((d.gr G5).gr G6)
   refine qe rfl (Qx Ql rfl rfl rfl o rfl rfl) ?_
   rintro _ w7 ⟨s, M7⟩
   refine Qa<|Qo<|Zz<|Zf ?_
   have t := (((((Gr.refl w).trans G1).trans Y2).trans G6).md M7)
   cases hm
   refine ⟨_, _, rfl, Qt rfl (Xr Ql rfl s rfl), ?_⟩
   exact ⟨rfl, t⟩
 replace hm := iF c1 hm
 refine qs 3 rfl<|qm rfl<|qv rfl (Jr (a := p2.Minus) (b := 0) rfl rfl)<|qm rfl<|Qa<|Xj rfl (fun c2 => ?_) (fun c2 => ?_)
 · replace hm := iT c2 hm
   refine qs 3 rfl ?_
   have Y4 := Gr.trans G3 Y1
   have u := (c.gr Y4)
   refine qv rfl (Qp Ql rfl u rfl)<|qe rfl (eC Ty rfl (Tx p1 (Xf 34#8) (Vy _) (Vx _) 0#64 _)) ?_
   rintro _ w8 ⟨rfl, G8⟩
   have x := ((d.gr G5).gr G8)
   refine qe rfl (Qx Ql rfl rfl rfl x rfl rfl) ?_
   rintro _ w9 ⟨y, M9⟩
   refine Qa<|Qo<|Zz<|Zf ?_
   have z := (((((Gr.refl w).trans G1).trans Y2).trans G8).md M9)
   cases hm
   refine ⟨_, _, rfl, Qt rfl (Xr Ql rfl y rfl), ?_⟩
   exact ⟨rfl, z⟩
 replace hm := iF c2 hm
 refine Vi<|Xy<|Xl<|qs 8 rfl ?_
 have Y5 := Gr.trans G3 Y1
 have A := (c.gr Y5)
 refine qv rfl (Qp Ql rfl A rfl)<|qm rfl ?_
 obtain ⟨x2, B, hm⟩ := Qc hm
 refine qe rfl (eC Qlp rfl (Ql1 B)) ?_
 rintro _ P ⟨rfl, h⟩
 refine qm rfl<|qm rfl ?_
 obtain ⟨x3, C, hm⟩ := Qc hm
 refine qe rfl (eC Qlo rfl (Qkz C)) ?_
 rintro _ Q ⟨rfl, i⟩
 obtain ⟨x4, D, hm⟩ := Qc hm
 refine qe rfl (eC Qqo rfl (Qpq D)) ?_
 rintro _ R ⟨rfl, j⟩
 have Y6 := Gr.trans (Gr.trans (Gr.trans G5 h) i) j
 have E := (d.gr Y6)
 refine qe rfl (Qx Ql rfl rfl rfl E rfl rfl) ?_
 rintro _ S ⟨k, F⟩
 refine Qa<|Qo ?_
 have G := (((((((Gr.refl w).trans G1).trans Y2).trans h).trans i).trans j).md F)
 cases hm
 refine ⟨_, _, rfl, Qt rfl (Xr Ql rfl k rfl), ?_⟩
 exact ⟨rfl, G⟩
theorem Qx0 {p0 p1 p2 r} (hm : Qdp p0 p1 p2 = some r) {w : World} :
    Calls Tryz.prog 129 [kv p0, .agg (Qs.cs p1).toArray, .int .i64 p2].toArray w fun e w' => ∃ v, e = .returned v ∧ (∃ ur0_1 zr0_1 gr0_1, v = .tuple [.agg (Qq.cs r.1 ur0_1).toArray, .int .i64 r.2].toArray ∧ Qn w' zr0_1 gr0_1 72 18 ur0_1 (r.1.Labels.map Xn.cs) ∧ Zm (zr0_1 = 0 ∨ w.heap.size ≤ gr0_1) ∧ Gr w w') := by
 unfold Qdp at hm
 refine Xe 61 Tryz.func129 rfl rfl rfl<|qs 4 rfl<|qe rfl (Qy (cs := kb p0) rfl rfl) ?_
 rintro _ w1 ⟨b1, rfl, bq, ah, G1⟩
 have bH := ah.lt
 refine qe rfl (Qy (cs := Qs.cs p1) rfl rfl) ?_
 rintro _ w2 ⟨b2, rfl, br, ai, G2⟩
 have bI := ai.lt
 refine qe rfl (Xh (cs := Qq.cs (Qq.mk 0 [] (Qu.mk 0#64 0#64)) (.slice none 0 0)) Gl rfl) ?_
 rintro _ w3 ⟨b3, rfl, bs, I, G3⟩
 have bJ := I.lt
 refine qm rfl<|qd 8 rfl ?_
 have B7 := (ai.gr G3)
 refine qv rfl (Qp Zw rfl B7 rfl) ?_
 obtain ⟨x1, aJ, hm⟩ := Qc hm
 refine qe rfl (eC Qqd rfl (Qpp aJ (Qn.rd (Ji _ 0 171 2)))) ?_
 rintro _ w4 ⟨rfl, G4⟩
 have z8 := G4.size
 refine qm rfl<|qm rfl<|qm rfl<|qe rfl (Xh (cs := Xv.cs (Xv.mk 0#8 0 0)) My rfl) ?_
 rintro _ w5 ⟨b5, rfl, bu, aj, G5⟩
 have bx := aj.lt
 refine qe rfl (Qx Vj rfl rfl rfl aj rfl rfl) ?_
 rintro _ w6 ⟨ak, M6⟩
 have bK := M6.size
 refine qm rfl<|Qa<|Qe<|qs 2 rfl<|qm rfl<|qv rfl (Jw (a := x1.2) (b := 0) rfl rfl)<|Qa<|Xj rfl (fun c1 => ?_) (fun c1 => ?_)
 · replace hm := iT c1 hm
   refine qs 4 rfl<|qv rfl (Zv (cs := Qq.cs (Qq.mk 0 [] (Qu.mk 0#64 0#64)) (.slice none 0 0)) Da rfl rfl)<|qm rfl ?_
   have Y1 := Gr.trans G4 G5
   have aK := ((I.gr Y1).md M6)
   refine qe rfl (Qx Jc rfl rfl (Qq.cs_ones _ _ rfl) aK rfl rfl) ?_
   rintro _ w7 ⟨aL, M7⟩
   refine qm rfl<|qb ?_
   have Y2 := Gr.trans (Gr.trans (Gr.trans G1 G2) G3) Y1
   have aM := ((((Gr.refl w).trans Y2).md M6).md M7)
   cases hm
   refine ⟨_, _, rfl, Zb rfl (Xr Jc rfl aL rfl) (Qg rfl), ?_⟩
   exact ⟨(.slice none 0 0), 0, 0, rfl, (Ji _ 0 72 18), ⟨.inl rfl⟩, aM⟩
 replace hm := iF c1 hm
 refine qu<|Qe<|qs 4 rfl<|qv rfl (Qp Vj rfl ak rfl)<|qm rfl ?_
 obtain ⟨x2, aN, hm⟩ := Qc hm
 refine qe rfl (eC Qyk rfl (Qxa aN)) ?_
 rintro _ w8 ⟨rfl, G8⟩
 have bL := G8.size
 refine qv rfl (Jb rfl)<|Qa<|Xj rfl (fun c2 => ?_) (fun c2 => ?_)
 · replace hm := Xx c2 hm
   refine qs 3 rfl<|qv rfl (Zv (cs := Qq.cs (Qq.mk 0 [] (Qu.mk 0#64 0#64)) (.slice none 0 0)) Da rfl rfl) ?_
   have Y3 := Gr.trans G4 G5
   have aO := (((I.gr Y3).md M6).gr G8)
   refine qe rfl (Qx Jc rfl rfl (Qq.cs_ones _ _ rfl) aO rfl rfl) ?_
   rintro _ w9 ⟨aP, M9⟩
   refine qm rfl<|qb ?_
   have Y4 := Gr.trans (Gr.trans (Gr.trans G1 G2) G3) Y3
   have aQ := (((((Gr.refl w).trans Y4).md M6).trans G8).md M9)
   cases hm
   refine ⟨_, _, rfl, Zb rfl (Xr Jc rfl aP rfl) (Qg rfl), ?_⟩
   exact ⟨(.slice none 0 0), 0, 0, rfl, (Ji _ 0 72 18), ⟨.inl rfl⟩, aQ⟩
 replace hm := Xw c2 hm
 refine qu<|qs 4 rfl<|qm rfl<|qv rfl (Zv (cs := Qq.cs (Qq.mk p2 [] (Qu.mk 0#64 0#64)) (.slice none 0 0)) Da rfl rfl)<|qe rfl (Xh (cs := Qq.cs (Qq.mk 0 [] (Qu.mk 0#64 0#64)) (.slice none 0 0)) Gl rfl) ?_
 rintro _ bM ⟨d, rfl, aR, N, aS⟩
 have bz := N.lt
 refine qe rfl (Qx Jc rfl rfl (Qq.cs_ones _ _ rfl) N rfl rfl) ?_
 rintro _ bN ⟨al, B⟩
 have bO := B.size
 refine Qa<|Qe<|qs 3 rfl ?_
 have Y5 := Gr.trans G8 aS
 have am := ((ak.gr Y5).md B)
 refine qv rfl (Qp Vj rfl am rfl)<|qm rfl ?_
 obtain ⟨x3, aT, hm⟩ := Qc hm
 refine qe rfl (eC Qyl rfl (Qx7 aT)) ?_
 rintro _ C ⟨ad, ae, rfl, f, af, g, ag, t⟩
 have bP := t.size
 have bA := f.lt
 have bB := g.lt
 refine Qa<|Xi ?_
 obtain ⟨l4, aU, hm⟩ := Qc hm
 have Y6 := Gr.trans (Gr.trans (Gr.trans (Gr.trans G1 G2) G3) G4) G5
 have aV := ((((((Gr.refl w).trans Y6).md M6).trans Y5).md B).trans t)
 have Y7 := Gr.trans (Gr.trans (Gr.trans G2 G3) G4) G5
 have an := (((((ah.gr Y7).md M6).gr Y5).md B).gr t)
 have Y8 := Gr.trans G4 G5
 have aW := (((((I.gr Y8).md M6).gr Y5).md B).gr t)
 have aX := (am.gr t)
 have aY := (al.gr t)
 refine Oe (gf := 300) rfl Qz6 (Qx6 x3.1 x3.2 _ _ _ aU _ f g) (by intro x hx; obtain ⟨a, _, rfl⟩ := List.mem_map.1 hx; rfl) rfl _ (fun _ _ _ _ => False) ([d] ++ zf 0 0) (Od (α := List Xn × Value × Nat × Nat) (fun ⟨a7, vy8, zy8, gy8⟩ rk => Vf (Qa9 p0 x1) (Qa8 p2) (List.drop rk l4) a7 = some r) (fun ⟨a7, vy8, zy8, gy8⟩ => ([d] ++ zf zy8 gy8)) (fun ⟨a7, vy8, zy8, gy8⟩ W => Qn W zy8 gy8 72 18 vy8 (a7.map Xn.cs) ∧ Zm (zy8 = 0 ∨ C.heap.size ≤ gy8) ∧ Bx W d 52 (Qq.cs (Qq.mk p2 a7 (Qu.mk 0#64 0#64)) vy8) ∧ True) (by rintro ⟨a7, vy8, zy8, gy8⟩ W ⟨F0, F1, F2, _⟩ b hb; have q0 := F0.lt; have q2 := F2.lt; replace hb : b ∈ ([d] ++ zf zy8 gy8) := hb; simp only [List.mem_cons, List.mem_append, Jj, List.not_mem_nil, or_false, false_or, not_or, ne_eq, List.nil_append, List.cons_append, true_and, and_true, false_and, and_false, not_true_eq_false, not_false_eq_true, or_true, true_or] at hb; omega) (by rintro ⟨a7, vy8, zy8, gy8⟩ W W' ⟨F0, F1, F2, _⟩ E hs; replace hs : ∀ b ∈ ([d] ++ zf zy8 gy8), W'.heap[b]? = W.heap[b]? := hs; exact ⟨Qn.hs F0 hs (fun hz => by simp [Jj, hz]), F1, (hs _ (by simp)).trans F2, trivial⟩)) (fun _ => Qgz) (by intro b hb; simp only [List.mem_cons, List.mem_append, Jj, List.not_mem_nil, or_false, false_or, not_or, ne_eq, List.nil_append, List.cons_append, true_and, and_true, false_and, and_false, not_true_eq_false, not_false_eq_true, or_true, true_or] at hb ⊢; omega) ⟨⟨[], (.slice none 0 0), 0, 0⟩, hm, rfl, (Ji _ 0 72 18), ⟨(.inl rfl)⟩, aY, trivial⟩ ?_ ?_ ?_
 · rintro l rk x fp aZ hl hx _ a0 hF hln Jt
   clear hm
   obtain ⟨⟨e9, j⟩, hxe, rfl⟩ := map_some hx
   have D : Kz [(1, d), (0, 0)] C aZ := Fv a0 (by intro k hk; simp only [Jp, and_true, List.mem_cons, List.mem_append, Jj, List.not_mem_nil, or_false, false_or, not_or, ne_eq, List.nil_append, List.cons_append, true_and, and_true, false_and, and_false, not_true_eq_false, not_false_eq_true, or_true, true_or] at hk ⊢; omega)
   refine qs 1 rfl<|qm rfl<|Qa<|qg 1 rfl<|qm rfl<|Qh<|⟨rfl, (Gr.refl _), ?_⟩
   rintro J K ⟨⟨a7, vy8, zy8, gy8⟩, hm, rfl, n, i, o, -⟩
   have bQ := K.size
   have O := n.lth
   have bC := o.lt
   replace hm := Qew hm hxe
   generalize hnx1 : Vf (Qa9 p0 x1) (Qa8 p2) (List.drop (rk + 1) l4) = a1 at hm
   unfold Qa9 at hm
   try dsimp only at hm
   refine Xi<|qs 5 rfl<|qm rfl<|qm rfl<|qv rfl (Zv (cs := Xn.cs (Xn.mk e9 j k0)) Qpb rfl (by kernel_rfl))<|qe rfl (Xh (cs := Xn.cs (Xn.mk 0 0 k0)) Qhe rfl) ?_
   rintro _ bR ⟨V, rfl, a2, ao, u⟩
   refine qe rfl (Qx Hs rfl rfl rfl ao rfl rfl) ?_
   rintro _ a3 ⟨F, y⟩
   refine Qa ?_
   refine qj (β := W2) (rg 38 16) (fun z => []) (fun z wr => (Qdq a7 a1 e9 j z = some r) ∧ Bx wr V 72 (Xn.cs (Xn.mk e9 j z)) ∧ Kz [(1, V)] a3 wr) ?_ ?_
   · refine qs 2 rfl<|qm rfl<|qv rfl (Jr (a := j) (b := 0) rfl rfl)<|Qa<|Xj rfl (fun c3 => ?_) (fun c3 => ?_)
     · replace hm := iT c3 hm
       refine qg 8 rfl ?_
       have a4 := ((((aX.kz D).md K).gr u).md y)
       refine qv rfl (Qp Vj rfl a4 rfl) ?_
       have a5 := ((((an.kz D).md K).gr u).md y)
       refine qv rfl (Qp Ql rfl a5 rfl)<|qv rfl (Qb Qer rfl)<|qv rfl (Qd (v := .int .i64 e9) Qv rfl F rfl)<|qv rfl (Zv (cs := Xo.cs (Xo.mk e9 0)) Qdb rfl rfl) ?_
       obtain ⟨X, ap, hm⟩ := Qc hm
       refine qe rfl (eC Qym rfl (Qx5 ap)) ?_
       rintro _ bS ⟨rfl, aq⟩
       refine qv rfl (Qb Qb8 rfl) ?_
       have a6 := (F.gr aq)
       refine qe rfl (Qib (cs' := Xn.cs (Xn.mk e9 j X)) (vs := kb X) (Ql).siz rfl rfl rfl rfl rfl a6 rfl rfl) ?_
       rintro _ bT ⟨ar, a8⟩
       refine Qh ?_
       exact ⟨rfl, X, Qf, hm, ar, ((Kz.gr (Kz.refl _ _) aq).md a8)⟩
     replace hm := iF c3 hm
     refine qg 8 rfl ?_
     have a9 := ((((an.kz D).md K).gr u).md y)
     refine qv rfl (Qp Ql rfl a9 rfl)<|qm rfl ?_
     obtain ⟨bU, au, hm⟩ := Qc hm
     refine qe rfl (eC Qlp rfl (Ql1 au)) ?_
     rintro _ bV ⟨rfl, av⟩
     refine qm rfl<|qm rfl ?_
     obtain ⟨Y, aw, hm⟩ := Qc hm
     refine qe rfl (eC Qlo rfl (Qkz aw)) ?_
     rintro _ bW ⟨rfl, ax⟩
     refine qv rfl (Qb Qb8 rfl) ?_
     have ba := ((F.gr av).gr ax)
     refine qe rfl (Qib (cs' := Xn.cs (Xn.mk e9 j Y)) (vs := kb Y) (Ql).siz rfl rfl rfl rfl rfl ba rfl rfl) ?_
     rintro _ bX ⟨ay, bb⟩
     refine Qh ?_
     exact ⟨rfl, Y, Qf, hm, ay, (((Kz.gr (Kz.refl _ _) av).gr ax).md bb)⟩
   clear hm; rintro z bY ⟨hm, p, Z⟩
   have bD := p.lt
   unfold Qdq at hm
   refine qg 7 rfl<|qv rfl (Qb Ho rfl) ?_
   have az := (((o.gr u).md y).kz Z)
   refine qv rfl (Qd (v := vy8) Hk rfl az rfl)<|qv rfl (Qp Hs rfl p rfl)<|qe rfl (Ve [(Xn.mk e9 j z)] Xn.cs Qpe rfl rfl (Kx rfl) rfl rfl rfl) ?_
   rintro bE bZ ⟨bF, bd, aA, L⟩
   have b0 := L.size
   have bf := ((((n.gr u).md y (Xd O)).kz Z (Qk (Xd (b := V) O))).gr L)
   obtain ⟨aB, aC, hm⟩ := Qc hm
   refine qe rfl (Vl (l := a7) (m := [(Xn.mk e9 j z)]) (c := Xn.cs) Qhh rfl rfl bf (Qn.rd aA) aC (by decide)) ?_
   rintro P b4 ⟨Q, R, S, T, bG, G⟩
   refine qv rfl (Qb Ho rfl) ?_
   have bg := ((az.gr L).ka T (Qk (Jv (b := d) i)))
   refine qe rfl (Hn (cs' := Qq.cs (Qq.mk p2 aB (Qu.mk 0#64 0#64)) P) (Hk).siz rfl rfl (Qn.oneB S) bg rfl rfl) ?_
   rintro _ aD ⟨aE, aF⟩
   refine Qh<|Xy ?_
   have bh := (S.md aF (Hl G (Jv i)))
   have K_49 : Kz [(1, d), (zy8, gy8)] J aD := ((((((Kz.gr (Kz.refl _ _) u).md y).kz Z).gr L).ka T (Qk (Qj : zy8 = 0 ∨ (gy8 = gy8 ∧ zy8 ≠ 0) ∨ J.heap.size ≤ gy8))).md aF)
   have Kq49 : Kp ([d] ++ zf zy8 gy8) J aD := Qez K_49 (by intro k hk; simp only [Jp, and_true, List.mem_cons, List.mem_append, Jj, List.not_mem_nil, or_false, false_or, not_or, ne_eq, List.nil_append, List.cons_append, true_and, and_true, false_and, and_false, not_true_eq_false, not_false_eq_true, or_true, true_or] at hk ⊢; omega)
   subst hnx1
   exact ⟨Kq49, ([d] ++ zf Q R), (by intro c hc; have := (Jg (A := (fun x => (x = gy8 ∧ zy8 ≠ 0) ∨ J.heap.size ≤ x)) G Qj); simp only [List.mem_cons, List.mem_append, Jj, List.not_mem_nil, or_false, false_or, not_or, ne_eq, List.nil_append, List.cons_append, true_and, and_true, false_and, and_false, not_true_eq_false, not_false_eq_true, or_true, true_or] at hc ⊢; omega), ⟨⟨aB, P, Q, R⟩, hm, rfl, bh, ⟨(Jg (A := (fun x => C.heap.size ≤ x)) G (Jf (A := (fun x => C.heap.size ≤ x)) i))⟩, aE, trivial⟩⟩
 · clear hm; rintro H fp bi bj aa aG ⟨⟨a7, vy8, zy8, gy8⟩, hm, rfl, q, s, M, -⟩ bk
   replace hm := Qex hm
   have U : Kz [(1, d), (0, 0)] C bi := Fv bk (by intro k hk; simp only [Jp, and_true, List.mem_cons, List.mem_append, Jj, List.not_mem_nil, or_false, false_or, not_or, ne_eq, List.nil_append, List.cons_append, true_and, and_true, false_and, and_false, not_true_eq_false, not_false_eq_true, or_true, true_or] at hk ⊢; omega)
   simp only [List.mem_cons, List.mem_append, Jj, List.not_mem_nil, or_false, false_or, not_or, ne_eq, List.nil_append, List.cons_append, true_and, and_true, false_and, and_false, not_true_eq_false, not_false_eq_true, or_true, true_or, not_and] at aG
   unfold Qa8 at hm
   try dsimp only at hm
   refine Xy<|Xl<|qs 3 rfl<|qv rfl (Qp Jc rfl M rfl) ?_
   have bl := (aW.kz U)
   refine qe rfl (Qx Jc rfl rfl (Qq.cs_ones _ _ (Qn.oneB q)) bl rfl rfl) ?_
   rintro _ aH ⟨aI, ab⟩
   refine qm rfl<|Qa<|Qo ?_
   have DL69 := (Df.md aa ab)
   have ac := Md.put (w := aH) H (.deferred none)
   have bm := (aI.md ac)
   have bo := ((q.md ab (Jv s)).md ac)
   have bp : Gr w (aH.putObj H (.deferred none)) := (((aV.kz U).md ab).md ac)
   cases hm
   refine ⟨_, _, ⟨H, rfl, DL69, rfl⟩, Zb rfl (Xr Jc rfl bm rfl) (Qg rfl), ?_⟩
   exact ⟨vy8, zy8, gy8, rfl, bo, ⟨(Jf (A := (fun x => w.heap.size ≤ x)) s)⟩, bp⟩
 rintro _ _ _ _ _ _ _ _ _ h _
 exact h.elim
theorem Qfy {p0 r} (hm : Lh p0 = some r) {w : World} :
    Calls Tryz.prog 192 [.int .i64 p0].toArray w fun e w' => ∃ v, e = .returned v ∧ (v = .int .i64 r ∧ Gr w w') := by
 unfold Lh at hm
 refine Xe 13 Tryz.func192 rfl rfl rfl<|qs 1 rfl<|qm rfl<|qd 1 rfl<|qm rfl<|Qa<|Qe<|qs 1 rfl<|qm rfl<|Qa<|Xi<|Zq (α := Nat × Int × Int) (rg 3 9) (fun ⟨n1, a3, a4⟩ => [(3, .int .i64 a3), (4, .int .i64 a4)]) (fun ⟨n1, a3, a4⟩ wr => (Qr (Qjc p0) n1 (a3, a4) = some r) ∧ Kz [] w wr) (fun ⟨n1, a3, a4⟩ => n1) ⟨Xb, 1, 0⟩ ?_ ?_ ?_
 · exact Qf
 · exact ⟨hm, Kz.refl _ _⟩
 clear hm; rintro ⟨n1, a3, a4⟩ w1 ⟨hm, K1⟩
 have hb := Zx hm; clear hm; obtain ⟨n1, rfl, hm⟩ := hb
 generalize c : Qr (Qjc p0) n1 = d at hm
 unfold Qjc at hm
 try dsimp only at hm
 refine Qe<|qs 3 rfl<|qm rfl<|qm rfl<|qv rfl (Zc (a := a4) (b := p0) rfl rfl)<|Qa<|Zu rfl (fun c1 => ?_) (fun c1 => ?_)
 · replace hm := iF c1 hm
   refine Zl<|Xk<|Xk<|Zk<|Xl<|qs 2 rfl<|qm rfl<|qm rfl<|Qa<|Qo ?_
   have X3 := ((Gr.refl w).kz K1)
   cases hm
   refine ⟨_, _, rfl, Qt rfl (Qg rfl), ?_⟩
   exact ⟨rfl, X3⟩
 replace hm := iT c1 hm
 refine qu<|Qe<|Xi<|qg 3 rfl<|qm rfl<|qv rfl (Wa (k := .i64) (a := 2) (b := a3) rfl rfl)<|qm rfl<|Qh<|Xy<|Xl<|qg 3 rfl<|qm rfl<|qv rfl (Zg (k := .i64) (a := a4) (b := 1) rfl rfl)<|qm rfl<|Qh ?_
 have K_2 : Kz [] w w1 := K1
 subst c
 exact ⟨rfl, ⟨n1, Qi (2 * a3), Qi (a4 + 1)⟩, Qf, ⟨hm, K_2⟩, Nat.lt_succ_self _⟩
theorem Xeu {p0 p1 r} (hm : Qg2 p0 p1 = some r) {w : World} :
    Calls Tryz.prog 194 [.int .i64 p0, .int .i64 p1].toArray w fun e w' => ∃ v, e = .returned v ∧ (v = .bool r ∧ Gr w w') := by
 unfold Qg2 at hm
 refine Xe 13 Tryz.func194 rfl rfl rfl<|qs 1 rfl<|qm rfl<|qd 9 rfl<|qm rfl<|qv rfl (Kl (a := p1) (b := 0) rfl rfl)<|Jh rfl (Qm rfl) (fun c1 => ?_) (fun c1 => ?_)
 · replace hm := iF c1 hm
   refine qk rfl<|qk rfl<|qk rfl<|qk rfl<|qm rfl<|qm rfl<|Qa<|Qo ?_
   cases hm
   refine ⟨_, _, rfl, Qt rfl (Qg rfl), ?_⟩
   exact ⟨rfl, (Gr.refl w)⟩
 replace hm := iT c1 hm
 refine qm rfl<|qm rfl ?_
 obtain ⟨x1, c, hm⟩ := Qc hm
 refine qe rfl (eC Qe4 rfl (Qfy c)) ?_
 rintro _ w1 ⟨rfl, G1⟩
 refine qv rfl (Zc (a := p1) (b := x1) rfl rfl)<|qm rfl<|qm rfl<|Qa<|Qo ?_
 have X2 := ((Gr.refl w).trans G1)
 cases hm
 refine ⟨_, _, rfl, Qt rfl (Qg rfl), ?_⟩
 exact ⟨rfl, X2⟩
theorem Qns {p0 p1 r} (hm : Qca p0 p1 = some r) {w : World} :
    Calls Tryz.prog 345 [.int .i64 p0, .int .i64 p1].toArray w fun e w' => ∃ v, e = .returned v ∧ (∃ ur0_s zr0_s gr0_s, v = ur0_s ∧ Qn w' zr0_s gr0_s 3 1 ur0_s (r.map ic) ∧ Zm (zr0_s = 0 ∨ w.heap.size ≤ gr0_s) ∧ Gr w w') := by
 unfold Qca at hm
 refine Xe 19 Tryz.func345 rfl rfl rfl<|qs 1 rfl<|qm rfl<|qd 1 rfl<|qm rfl<|Qa<|Qe<|Xi<|Zq (α := Nat × Int × List Int × Value × Nat × Nat) ([1] ++ rg 5 10) (fun ⟨n1, a4, a5, vy6, zy6, gy6⟩ => [(1, .int .i64 a4), (5, vy6)]) (fun ⟨n1, a4, a5, vy6, zy6, gy6⟩ wr => (Qr (Az p0) n1 (a4, a5) = some r) ∧ Qn wr zy6 gy6 3 1 vy6 (a5.map ic) ∧ Zm (zy6 = 0 ∨ w.heap.size ≤ gy6) ∧ Kz [] w wr) (fun ⟨n1, a4, a5, vy6, zy6, gy6⟩ => n1) ⟨Xb, p1, [], (.slice none 0 0), 0, 0⟩ ?_ ?_ ?_
 · exact Qf
 · exact ⟨hm, (Ji _ 0 3 1), ⟨(.inl rfl)⟩, Kz.refl _ _⟩
 clear hm; rintro ⟨n1, a4, a5, vy6, zy6, gy6⟩ w1 ⟨hm, d, g, K1⟩
 have z1 := K1.size
 have hb := Zx hm; clear hm; obtain ⟨n1, rfl, hm⟩ := hb
 generalize f : Qr (Az p0) n1 = J at hm
 unfold Az at hm
 try dsimp only at hm
 refine Qe<|qs 3 rfl<|qm rfl<|qm rfl<|qv rfl (Jw (a := a4) (b := p0) rfl rfl)<|Qa<|Xj rfl (fun c1 => ?_) (fun c1 => ?_)
 · replace hm := iT c1 hm
   refine qu<|Xi<|qs 5 rfl<|qm rfl<|qe rfl (Ve [a4] ic Qpc rfl rfl (Kx rfl) rfl rfl rfl) ?_
   rintro M w2 ⟨h, K, i, G2⟩
   have z3 := G2.size
   refine qm rfl ?_
   have B5 := (d.gr G2)
   obtain ⟨l7, j, hm⟩ := Qc hm
   refine qe rfl (Vl (l := [a4]) (m := a5) (c := ic) Qp1 rfl rfl i (Qn.rd B5) j (by decide)) ?_
   rintro k w3 ⟨n, o, p, q, N, s⟩
   refine qm rfl<|Qa<|qg 3 rfl<|qm rfl ?_
   obtain ⟨x8, t, hm⟩ := Qc hm
   refine qv rfl (Tq (a := a4) (b := 2) rfl rfl t)<|qm rfl<|Qh<|Xy ?_
   have K_7 : Kz [] w w3 := ((K1.gr G2).ka q (Qk ((.inr Qj) : 1 = 0 ∨ w.heap.size ≤ h)))
   subst f
   exact ⟨rfl, ⟨n1, x8, l7, k, n, o⟩, Qf, ⟨hm, p, ⟨(Jg (A := (fun x => w.heap.size ≤ x)) s (.inr Qj))⟩, K_7⟩, Nat.lt_succ_self _⟩
 replace hm := iF c1 hm
 refine Zl<|Xk<|Xk<|Zk<|Xl<|qs 5 rfl<|qm rfl<|qe rfl (Ve [p0] ic Qpc rfl rfl (Kx rfl) rfl rfl rfl) ?_
 rintro O w4 ⟨u, L, y, G4⟩
 have z8 := G4.size
 refine qm rfl ?_
 have z := (d.gr G4)
 obtain ⟨l9, B, hm⟩ := Qc hm
 refine qe rfl (Vl (l := [p0]) (m := a5) (c := ic) Qp1 rfl rfl y (Qn.rd z) B (by decide)) ?_
 rintro C w5 ⟨D, E, F, G, P, H⟩
 refine qm rfl<|Qa<|Qo ?_
 have I := ((((Gr.refl w).kz K1).trans G4).ka G (Qk ((.inr Qj) : 1 = 0 ∨ w.heap.size ≤ u)))
 cases hm
 refine ⟨_, _, rfl, Qt rfl (Qg rfl), ?_⟩
 exact ⟨C, D, E, rfl, F, ⟨(Jg (A := (fun x => w.heap.size ≤ x)) H (.inr Qj))⟩, I⟩
theorem Qtz {p0 p1 r} (hm : Qc8 p0 p1 = some r) {w : World} :
    Calls Tryz.prog 280 [.int .i64 p0, .int .i64 p1].toArray w fun e w' => ∃ v, e = .returned v ∧ (v = .bool r ∧ Gr w w') := by
 unfold Qc8 at hm
 refine Xe 14 Tryz.func280 rfl rfl rfl<|qs 1 rfl<|qm rfl<|qd 10 rfl<|qm rfl<|qv rfl (Kl (a := p1) (b := 1) rfl rfl)<|Jh rfl (Qm rfl) (fun c1 => ?_) (fun c1 => ?_)
 · replace hm := iF c1 hm
   refine qk rfl<|qk rfl<|qk rfl<|qk rfl<|qk rfl<|qm rfl<|qm rfl<|Qa<|Qo ?_
   cases hm
   refine ⟨_, _, rfl, Qt rfl (Qg rfl), ?_⟩
   exact ⟨rfl, (Gr.refl w)⟩
 replace hm := iT c1 hm
 refine qm rfl<|qm rfl ?_
 obtain ⟨x1, c, hm⟩ := Qc hm
 refine qe rfl (eC Qe4 rfl (Qfy c)) ?_
 rintro _ w1 ⟨rfl, G1⟩
 refine qv rfl (Wa (k := .i64) (a := 2) (b := x1) rfl rfl)<|qv rfl (Zc (a := p1) (b := Qi (2 * x1)) rfl rfl)<|qm rfl<|qm rfl<|Qa<|Qo ?_
 have X2 := ((Gr.refl w).trans G1)
 cases hm
 refine ⟨_, _, rfl, Qt rfl (Qg rfl), ?_⟩
 exact ⟨rfl, X2⟩
theorem Qnr {p0 p1 r} (hm : Ro p0 p1 = some r) {w : World} :
    Calls Tryz.prog 281 [.int .i64 p0, .int .i64 p1].toArray w fun e w' => ∃ v, e = .returned v ∧ (v = .bool r ∧ Gr w w') := by
 unfold Ro at hm
 refine Xe 13 Tryz.func281 rfl rfl rfl<|qs 1 rfl<|qm rfl<|Qa<|Qe<|Xi<|Zq (α := Nat × Int) ([0] ++ rg 5 5) (fun ⟨n1, a2⟩ => [(0, .int .i64 a2)]) (fun ⟨n1, a2⟩ wr => (Qr (Qc5 p1) n1 a2 = some r) ∧ Kz [] w wr) (fun ⟨n1, a2⟩ => n1) ⟨Xb, p0⟩ ?_ ?_ ?_
 · exact Qf
 · exact ⟨hm, Kz.refl _ _⟩
 clear hm; rintro ⟨n1, a2⟩ w1 ⟨hm, K1⟩
 have hb := Zx hm; clear hm; obtain ⟨n1, rfl, hm⟩ := hb
 generalize c : Qr (Qc5 p1) n1 = f at hm
 unfold Qc5 at hm
 try dsimp only at hm
 refine Qe<|qs 3 rfl<|qm rfl<|qm rfl<|qv rfl (Va (a := a2) (b := p1) rfl rfl)<|Qa<|Xj rfl (fun c1 => ?_) (fun c1 => ?_)
 · replace hm := iT c1 hm
   refine qu<|Xi<|qg 3 rfl<|qm rfl ?_
   obtain ⟨x3, d, hm⟩ := Qc hm
   refine qv rfl (Tq (a := a2) (b := 2) rfl rfl d)<|qm rfl<|Qh<|Xy ?_
   have K_2 : Kz [] w w1 := K1
   subst c
   exact ⟨rfl, ⟨n1, x3⟩, Qf, ⟨hm, K_2⟩, Nat.lt_succ_self _⟩
 replace hm := iF c1 hm
 refine Zl<|Xk<|Xk<|Zk<|Xl<|qs 4 rfl<|qm rfl<|qm rfl<|qv rfl (Jr (a := a2) (b := p1) rfl rfl)<|qm rfl<|Qa<|Qo ?_
 have X3 := ((Gr.refl w).kz K1)
 cases hm
 refine ⟨_, _, rfl, Qt rfl (Qg rfl), ?_⟩
 exact ⟨rfl, X3⟩
theorem Xem {p0 r} (hm : Qfx p0 = some r) {w : World} :
    Calls Tryz.prog 346 [.int .i64 p0].toArray w fun e w' => ∃ v, e = .returned v ∧ (v = .int .i64 r ∧ Gr w w') := by
 unfold Qfx at hm
 refine Xe 11 Tryz.func346 rfl rfl rfl<|qs 1 rfl<|qm rfl<|qd 1 rfl<|qm rfl<|Qa<|Qe<|Xi<|Zq (α := Nat × Int × Int) ([0] ++ rg 3 7) (fun ⟨n1, a3, a4⟩ => [(0, .int .i64 a3), (3, .int .i64 a4)]) (fun ⟨n1, a3, a4⟩ wr => (Qr (Qc7) n1 (a3, a4) = some r) ∧ Kz [] w wr) (fun ⟨n1, a3, a4⟩ => n1) ⟨Xb, p0, 0⟩ ?_ ?_ ?_
 · exact Qf
 · exact ⟨hm, Kz.refl _ _⟩
 clear hm; rintro ⟨n1, a3, a4⟩ w1 ⟨hm, K1⟩
 have hb := Zx hm; clear hm; obtain ⟨n1, rfl, hm⟩ := hb
 generalize c : Qr (Qc7) n1 = f at hm
 unfold Qc7 at hm
 try dsimp only at hm
 refine Qe<|qs 2 rfl<|qm rfl<|qv rfl (Va (a := a3) (b := 1) rfl rfl)<|Qa<|Zu rfl (fun c1 => ?_) (fun c1 => ?_)
 · replace hm := iF c1 hm
   refine Zl<|Xk<|Xk<|Zk<|Xl<|qs 2 rfl<|qm rfl<|qm rfl<|Qa<|Qo ?_
   have X3 := ((Gr.refl w).kz K1)
   cases hm
   refine ⟨_, _, rfl, Qt rfl (Qg rfl), ?_⟩
   exact ⟨rfl, X3⟩
 replace hm := iT c1 hm
 refine qu<|Xi<|qs 3 rfl<|qm rfl ?_
 obtain ⟨x5, d, hm⟩ := Qc hm
 refine qv rfl (Tq (a := a3) (b := 2) rfl rfl d)<|qm rfl<|Qa<|qg 3 rfl<|qm rfl<|qv rfl (Zg (k := .i64) (a := a4) (b := 1) rfl rfl)<|qm rfl<|Qh<|Xy ?_
 have K_2 : Kz [] w w1 := K1
 subst c
 exact ⟨rfl, ⟨n1, x5, Qi (a4 + 1)⟩, Qf, ⟨hm, K_2⟩, Nat.lt_succ_self _⟩
theorem Xeq {p0 r} (hm : Qg0 p0 = some r) {w : World} :
    Calls Tryz.prog 347 [.int .i64 p0].toArray w fun e w' => ∃ v, e = .returned v ∧ (v = .int .i64 r ∧ Gr w w') := by
 unfold Qg0 at hm
 refine Xe 12 Tryz.func347 rfl rfl rfl<|qs 1 rfl<|qm rfl<|qd 1 rfl<|qm rfl<|Qa<|Qe<|Xi<|Zq (α := Nat × Int) (rg 3 8) (fun ⟨n1, a2⟩ => [(3, .int .i64 a2)]) (fun ⟨n1, a2⟩ wr => (Qr (Qjf p0) n1 a2 = some r) ∧ Kz [] w wr) (fun ⟨n1, a2⟩ => n1) ⟨Xb, 1⟩ ?_ ?_ ?_
 · exact Qf
 · exact ⟨hm, Kz.refl _ _⟩
 clear hm; rintro ⟨n1, a2⟩ w1 ⟨hm, K1⟩
 have hb := Zx hm; clear hm; obtain ⟨n1, rfl, hm⟩ := hb
 generalize c : Qr (Qjf p0) n1 = d at hm
 unfold Qjf at hm
 try dsimp only at hm
 refine Qe<|qs 5 rfl<|qm rfl<|qm rfl<|qv rfl (Wa (k := .i64) (a := a2) (b := a2) rfl rfl)<|qm rfl<|qv rfl (Zc (a := Qi (a2 * a2)) (b := p0) rfl rfl)<|Qa<|Xj rfl (fun c1 => ?_) (fun c1 => ?_)
 · replace hm := iT c1 hm
   refine qu<|Xi<|qg 3 rfl<|qm rfl<|qv rfl (Zg (k := .i64) (a := a2) (b := 1) rfl rfl)<|qm rfl<|Qh<|Xy ?_
   have K_2 : Kz [] w w1 := K1
   subst c
   exact ⟨rfl, ⟨n1, Qi (a2 + 1)⟩, Qf, ⟨hm, K_2⟩, Nat.lt_succ_self _⟩
 replace hm := iF c1 hm
 refine Zl<|Xk<|Xk<|Zk<|Xl<|qs 2 rfl<|qm rfl<|qm rfl<|Qa<|Qo ?_
 have X3 := ((Gr.refl w).kz K1)
 cases hm
 refine ⟨_, _, rfl, Qt rfl (Qg rfl), ?_⟩
 exact ⟨rfl, X3⟩
theorem Qu0 {p0 p1 r} (hm : Ia p0 p1 = some r) {w : World} :
    Calls Tryz.prog 282 [.int .i64 p0, .int .i64 p1].toArray w fun e w' => ∃ v, e = .returned v ∧ (v = .bool r ∧ Gr w w') := by
 unfold Ia at hm
 refine Xe 11 Tryz.func282 rfl rfl rfl<|qs 1 rfl<|qm rfl<|qd 7 rfl<|qm rfl ?_
 obtain ⟨x1, c, hm⟩ := Qc hm
 refine qe rfl (eC Qzi rfl (Xem c)) ?_
 rintro _ w1 ⟨rfl, G1⟩
 refine qm rfl ?_
 obtain ⟨x2, d, hm⟩ := Qc hm
 refine qe rfl (eC Qzj rfl (Xeq d)) ?_
 rintro _ w2 ⟨rfl, G2⟩
 obtain ⟨x3, f, hm⟩ := Qc hm
 refine qv rfl (Hm (a := x1) (b := x2) rfl rfl f)<|qv rfl (Jr (a := x3) (b := 0) rfl rfl)<|qm rfl<|Qa<|Qo ?_
 have X3 := (((Gr.refl w).trans G1).trans G2)
 cases hm
 refine ⟨_, _, rfl, Qt rfl (Qg rfl), ?_⟩
 exact ⟨rfl, X3⟩
theorem Xes {p0 p1 p2 r} (hm : Qcc p0 p1 p2 = some r) {w : World} :
    Calls Tryz.prog 279 [.int .i64 p0, .int .i64 p1, .int .i64 p2].toArray w fun e w' => ∃ v, e = .returned v ∧ (v = .int .i64 r ∧ Gr w w') := by
 unfold Qcc at hm
 refine Xe 29 Tryz.func279 rfl rfl rfl<|qs 1 rfl<|qm rfl<|qd 4 rfl<|qm rfl<|qm rfl ?_
 obtain ⟨x1, p, hm⟩ := Qc hm
 refine qe rfl (eC Qlz rfl (Qns p)) ?_
 rintro g w1 ⟨_, h, j, rfl, d, m, G1⟩
 refine qm rfl<|Qa<|Qe<|qs 1 rfl<|qm rfl<|Qa<|Xi ?_
 have X3 := ((Gr.refl w).trans G1)
 refine Zq (α := Nat × Int) ([6, 8] ++ rg 12 17) (fun ⟨n1, a3⟩ => [(6, .int .i64 0), (8, .int .i64 a3)]) (fun ⟨n1, a3⟩ wr => (Qr (Ie p0 x1) n1 a3 = some r) ∧ Kz [] w1 wr) (fun ⟨n1, a3⟩ => n1) ⟨Xb, 1⟩ ?_ ?_ ?_
 · exact Qf
 · exact ⟨hm, Kz.refl _ _⟩
 clear hm; rintro ⟨n1, a3⟩ w2 ⟨hm, K2⟩
 have hb := Zx hm; clear hm; obtain ⟨n1, rfl, hm⟩ := hb
 generalize f : Qr (Ie p0 x1) n1 = x at hm
 unfold Ie at hm
 try dsimp only at hm
 refine Qe<|qs 5 rfl<|qm rfl<|qm rfl ?_
 have B5 := (d.kz K2)
 refine qv rfl (Zo (l := x1) (c := ic) Tryz.underlying31 rfl (Qn.rd B5))<|qv rfl (Vn (k := .i64) (a := (x1.length : Int)) (b := 1) rfl rfl)<|qv rfl (Zc (a := a3) (b := Qi ((x1.length : Int) - 1)) rfl rfl)<|Qa<|Zu rfl (fun c1 => ?_) (fun c1 => ?_)
 · replace hm := iF c1 hm
   refine Zl<|Xk<|Xk<|Zk<|Xl<|qs 1 rfl<|qm rfl<|Qa<|Qo ?_
   have s := (X3.kz K2)
   cases hm
   refine ⟨_, _, rfl, Qt rfl (Qg rfl), ?_⟩
   exact ⟨rfl, s⟩
 replace hm := iT c1 hm
 refine qu<|Qe<|Xi<|qs 6 rfl<|qm rfl<|qm rfl<|qm rfl ?_
 obtain ⟨y4, n, hm⟩ := Qc hm
 refine qv rfl (Jm (i := a3) Tryz.underlying31 (Qv).siz rfl (Qn.rd B5) rfl n)<|qv rfl (Vq (q := 0) (u := .int .i64 y4) Qv rfl (Qn.rd B5) n (by first | rfl | omega) rfl) ?_
 obtain ⟨x5, t, hm⟩ := Qc hm
 refine qe rfl (eC Qqk rfl (Qu0 t)) ?_
 rintro _ w3 ⟨rfl, G3⟩
 refine Qa<|Zu rfl (fun c2 => ?_) (fun c2 => ?_)
 · replace hm := Xw c2 hm
   refine Vi<|Xy<|Xl<|qg 3 rfl<|qm rfl<|qv rfl (Zg (k := .i64) (a := a3) (b := 1) rfl rfl)<|qm rfl<|Qh ?_
   have K_9 : Kz [] w1 w3 := (K2.gr G3)
   subst f
   exact ⟨rfl, ⟨n1, Qi (a3 + 1)⟩, Qf, ⟨hm, K_9⟩, Nat.lt_succ_self _⟩
 replace hm := Xx c2 hm
 refine qs 5 rfl<|qm rfl<|qm rfl ?_
 obtain ⟨y6, o, hm⟩ := Qc hm
 have B7 := (B5.gr G3)
 refine qv rfl (Jm (i := a3) Tryz.underlying31 (Qv).siz rfl (Qn.rd B7) rfl o)<|qv rfl (Vq (q := 0) (u := .int .i64 y6) Qv rfl (Qn.rd B7) o (by first | rfl | omega) rfl)<|qm rfl<|Qa<|Qo<|Zz<|Zf<|Zf<|Zz<|Zf ?_
 have X8 := ((X3.kz K2).trans G3)
 cases hm
 refine ⟨_, _, rfl, Qt rfl (Qg rfl), ?_⟩
 exact ⟨rfl, X8⟩
theorem Qtw {p0 p1 r} (hm : Qc6 p0 p1 = some r) {w : World} :
    Calls Tryz.prog 179 [.agg (Qs.cs p0).toArray, .agg (Xo.cs p1).toArray].toArray w fun e w' => ∃ v, e = .returned v ∧ (v = .bool r ∧ Gr w w') := by
 unfold Qc6 at hm
 refine Xe 64 Tryz.func179 rfl rfl rfl<|qs 3 rfl<|qe rfl (Qy (cs := Qs.cs p0) rfl rfl) ?_
 rintro _ w1 ⟨b1, rfl, C, k, G1⟩
 refine qe rfl (Qy (cs := Xo.cs p1) rfl rfl) ?_
 rintro _ w2 ⟨b2, rfl, D, g, G2⟩
 refine qm rfl<|Qa<|Qe<|qs 6 rfl<|qv rfl (Qb Wu rfl) ?_
 have B5 := (k.gr G2)
 refine qv rfl (Qd (v := .int .i64 p0.Depth) Qv rfl B5 rfl)<|qv rfl (Qb Wt rfl)<|qv rfl (Qd (v := .int .i64 p1.Node) Qv rfl g rfl) ?_
 obtain ⟨x1, l, hm⟩ := Qc hm
 refine qe rfl (eC Qqj rfl (Qtz l)) ?_
 rintro _ w3 ⟨rfl, G3⟩
 refine qv rfl (Jb rfl)<|Qa<|Xj rfl (fun c1 => ?_) (fun c1 => ?_)
 · replace hm := Xx c1 hm
   refine qs 1 rfl<|qm rfl<|qb ?_
   have Y1 := Gr.trans (Gr.trans G1 G2) G3
   have X7 := ((Gr.refl w).trans Y1)
   cases hm
   refine ⟨_, _, rfl, Qt rfl (Qg rfl), ?_⟩
   exact ⟨rfl, X7⟩
 replace hm := Xw c1 hm
 refine qu<|Qe<|qs 3 rfl<|qv rfl (Qb Yg rfl) ?_
 have B8 := (B5.gr G3)
 refine qv rfl (Qd (v := bv p0.Kind) Xs rfl B8 rfl)<|qv rfl (Yz (p := p0.Kind) (q := 1#8) rfl rfl)<|Qa<|Xj rfl (fun c2 => ?_) (fun c2 => ?_)
 · replace hm := iT c2 hm
   refine qs 4 rfl<|qv rfl (Qb Vu rfl) ?_
   have B9 := (g.gr G3)
   refine qv rfl (Qd (v := .int .i64 p1.Minus) Qv rfl B9 rfl)<|qv rfl (Jr (a := p1.Minus) (b := 0) rfl rfl)<|qm rfl<|qb ?_
   have Y2 := Gr.trans (Gr.trans G1 G2) G3
   have m := ((Gr.refl w).trans Y2)
   cases hm
   refine ⟨_, _, rfl, Qt rfl (Qg rfl), ?_⟩
   exact ⟨rfl, m⟩
 replace hm := iF c2 hm
 refine qu<|Qe<|qs 3 rfl<|qv rfl (Qb Vu rfl) ?_
 have c := (g.gr G3)
 refine qv rfl (Qd (v := .int .i64 p1.Minus) Qv rfl c rfl)<|qv rfl (Jr (a := p1.Minus) (b := 0) rfl rfl)<|Qa<|Xj rfl (fun c3 => ?_) (fun c3 => ?_)
 · replace hm := iT c3 hm
   refine qs 4 rfl<|qv rfl (Qb Wt rfl)<|qv rfl (Qd (v := .int .i64 p1.Node) Qv rfl c rfl)<|qv rfl (Jr (a := p1.Node) (b := 1) rfl rfl)<|qm rfl<|qb ?_
   have Y3 := Gr.trans (Gr.trans G1 G2) G3
   have n := ((Gr.refl w).trans Y3)
   cases hm
   refine ⟨_, _, rfl, Qt rfl (Qg rfl), ?_⟩
   exact ⟨rfl, n⟩
 replace hm := iF c3 hm
 refine qu<|Qe ?_
 have Y4 := Gr.trans (Gr.trans G1 G2) G3
 have d := ((Gr.refl w).trans Y4)
 refine qj (β := Bool) (rg 23 21) (fun a2 => [(43, .bool a2)]) (fun a2 wr => (Ax p0 p1 a2 = some r) ∧ Kz [] w3 wr) ?_ ?_
 · refine qg 21 rfl<|qv rfl (Qb Wu rfl)<|qv rfl (Qd (v := .int .i64 p0.Depth) Qv rfl B8 rfl)<|qv rfl (Qb Vu rfl)<|qv rfl (Qd (v := .int .i64 p1.Minus) Qv rfl c rfl) ?_
   obtain ⟨x5, o, hm⟩ := Qc hm
   refine qe rfl (eC Qqj rfl (Qtz o)) ?_
   rintro _ w7 ⟨rfl, G7⟩
   refine qv rfl (Jb rfl)<|qp rfl (Qm rfl) (fun c7 => ?_) (fun c7 => ?_)
   · replace hm := Xx c7 hm
     refine qk rfl<|qk rfl<|qk rfl<|qk rfl<|qk rfl<|qm rfl<|qm rfl<|qk rfl<|qk rfl<|qk rfl<|qk rfl<|qk rfl<|qk rfl<|qm rfl<|Qh ?_
     exact ⟨rfl, true, Qf, hm, (Qz.gr G7)⟩
   replace hm := Xw c7 hm
   refine qv rfl (Qb Vu rfl) ?_
   have f := (c.gr G7)
   refine qv rfl (Qd (v := .int .i64 p1.Minus) Qv rfl f rfl)<|qv rfl (Qb Wt rfl)<|qv rfl (Qd (v := .int .i64 p1.Node) Qv rfl f rfl)<|qv rfl (Jr (a := p1.Minus) (b := p1.Node) rfl rfl)<|qm rfl<|qp rfl (Qm rfl) (fun c8 => ?_) (fun c8 => ?_)
   · replace hm := iT c8 hm
     refine qk rfl<|qk rfl<|qk rfl<|qk rfl<|qk rfl<|qk rfl<|qm rfl<|Qh ?_
     exact ⟨rfl, true, Qf, hm, (Qz.gr G7)⟩
   replace hm := iF c8 hm
   refine qv rfl (Qb Vu rfl)<|qv rfl (Qd (v := .int .i64 p1.Minus) Qv rfl f rfl)<|qv rfl (Qb Wt rfl)<|qv rfl (Qd (v := .int .i64 p1.Node) Qv rfl f rfl) ?_
   obtain ⟨x6, s, hm⟩ := Qc hm
   refine qe rfl (eC Qlt rfl (Qnr s)) ?_
   rintro _ w8 ⟨rfl, G8⟩
   refine qv rfl (Jb rfl)<|qm rfl<|Qh ?_
   exact ⟨rfl, (!x6), Qf, hm, ((Qz.gr G7).gr G8)⟩
 clear hm; rintro a2 w4 ⟨hm, K4⟩
 unfold Ax at hm
 refine Xj rfl (fun c4 => ?_) (fun c4 => ?_)
 · replace hm := Xx c4 hm
   refine qs 1 rfl<|qm rfl<|qb ?_
   have t := (d.kz K4)
   cases hm
   refine ⟨_, _, rfl, Qt rfl (Qg rfl), ?_⟩
   exact ⟨rfl, t⟩
 replace hm := Xw c4 hm
 refine qu<|qs 21 rfl<|qv rfl (Qb Yg rfl) ?_
 have h := (B8.kz K4)
 refine qv rfl (Qd (v := bv p0.Kind) Xs rfl h rfl)<|qv rfl (Yz (p := p0.Kind) (q := 2#8) rfl rfl)<|qp rfl (Qm rfl) (fun c5 => ?_) (fun c5 => ?_)
 · replace hm := iT c5 hm
   refine qk rfl<|qk rfl<|qk rfl<|qk rfl<|qk rfl<|qm rfl<|qm rfl<|qk rfl<|qk rfl<|qk rfl<|qk rfl<|qk rfl<|qk rfl<|qk rfl<|qk rfl<|qm rfl<|qm rfl<|Qa<|Qo ?_
   have u := (d.kz K4)
   cases hm
   refine ⟨_, _, rfl, Qt rfl (Qg rfl), ?_⟩
   exact ⟨rfl, u⟩
 replace hm := iF c5 hm
 refine qv rfl (Qb Wu rfl)<|qv rfl (Qd (v := .int .i64 p0.Depth) Qv rfl h rfl)<|qv rfl (Qb Wt rfl) ?_
 have i := (c.kz K4)
 refine qv rfl (Qd (v := .int .i64 p1.Node) Qv rfl i rfl) ?_
 obtain ⟨x3, x, hm⟩ := Qc hm
 refine qe rfl (eC Qqk rfl (Qu0 x)) ?_
 rintro _ w5 ⟨rfl, G5⟩
 refine qm rfl<|qp rfl (Qm rfl) (fun c6 => ?_) (fun c6 => ?_)
 · replace hm := Xx c6 hm
   refine qk rfl<|qk rfl<|qk rfl<|qk rfl<|qk rfl<|qk rfl<|qk rfl<|qk rfl<|qm rfl<|qm rfl<|Qa<|Qo ?_
   have y := ((d.kz K4).trans G5)
   cases hm
   refine ⟨_, _, rfl, Qt rfl (Qg rfl), ?_⟩
   exact ⟨rfl, y⟩
 replace hm := Xw c6 hm
 refine qv rfl (Qb Wu rfl) ?_
 have z := (h.gr G5)
 refine qv rfl (Qd (v := .int .i64 p0.Depth) Qv rfl z rfl)<|qv rfl (Qb Wt rfl) ?_
 have j := (i.gr G5)
 refine qv rfl (Qd (v := .int .i64 p1.Node) Qv rfl j rfl)<|qv rfl (Qb Vu rfl)<|qv rfl (Qd (v := .int .i64 p1.Minus) Qv rfl j rfl) ?_
 obtain ⟨x4, A, hm⟩ := Qc hm
 refine qe rfl (eC Qz0 rfl (Xes A)) ?_
 rintro _ w6 ⟨rfl, G6⟩
 refine qv rfl (Jr (a := x4) (b := 0) rfl rfl)<|qm rfl<|qm rfl<|Qa<|Qo ?_
 have B := (((d.kz K4).trans G5).trans G6)
 cases hm
 refine ⟨_, _, rfl, Qt rfl (Qg rfl), ?_⟩
 exact ⟨rfl, B⟩
theorem Xel {p0 p1 r} (hm : Qfv p0 p1 = some r) {w : World} :
    Calls Tryz.prog 293 [.agg (Qs.cs p0).toArray, .int .i64 p1].toArray w fun e w' => ∃ v, e = .returned v ∧ (∃ ur0_s zr0_s gr0_s, v = ur0_s ∧ Qn w' zr0_s gr0_s 171 2 ur0_s (r.map Xo.cs) ∧ Zm (zr0_s = 0 ∨ w.heap.size ≤ gr0_s) ∧ Gr w w') := by
 unfold Qfv at hm
 refine Xe 71 Tryz.func293 rfl rfl rfl<|qs 2 rfl<|qe rfl (Qy (cs := Qs.cs p0) rfl rfl) ?_
 rintro _ w1 ⟨b1, rfl, aZ, V, G1⟩
 have bd := V.lt
 refine qm rfl<|qd 1 rfl<|qm rfl<|qd 7 rfl<|qv rfl (Qb Wu rfl)<|qv rfl (Qd (v := .int .i64 p0.Depth) Qv rfl V rfl) ?_
 obtain ⟨x1, aw, hm⟩ := Qc hm
 refine qe rfl (eC Qe4 rfl (Qfy aw)) ?_
 rintro _ w2 ⟨rfl, G2⟩
 have z3 := G2.size
 refine qm rfl<|qv rfl (Zg (k := .i64) (a := x1) (b := p1) rfl rfl) ?_
 obtain ⟨x2, ax, hm⟩ := Qc hm
 refine qe rfl (eC Qlz rfl (Qns ax)) ?_
 rintro ac w3 ⟨_, d, f, rfl, n, ad, G3⟩
 have z4 := G3.size
 have W := n.lth
 refine qm rfl<|Qa<|Qe<|qs 3 rfl<|qv rfl (Qb Yg rfl) ?_
 have B6 := ((V.gr G2).gr G3)
 refine qv rfl (Qd (v := bv p0.Kind) Xs rfl B6 rfl)<|qv rfl (Yz (p := p0.Kind) (q := 1#8) rfl rfl)<|Qa<|Xj rfl (fun c1 => ?_) (fun c1 => ?_)
 · replace hm := iT c1 hm
   refine Qe<|qs 1 rfl<|qm rfl<|Qa<|Xi ?_
   have X7 := ((((Gr.refl w).trans G1).trans G2).trans G3)
   refine Zq (α := Nat × List Xo × Int × Value × Nat × Nat) ([5, 7] ++ rg 20 14) (fun ⟨n1, a6, a8, vy7, zy7, gy7⟩ => [(5, vy7), (7, .int .i64 a8)]) (fun ⟨n1, a6, a8, vy7, zy7, gy7⟩ wr => (Qr (Qj6 x2) n1 (a6, a8) = some r) ∧ Qn wr zy7 gy7 171 2 vy7 (a6.map Xo.cs) ∧ Zm (zy7 = 0 ∨ w3.heap.size ≤ gy7) ∧ Kz [] w3 wr) (fun ⟨n1, a6, a8, vy7, zy7, gy7⟩ => n1) ⟨Xb, [], 0, (.slice none 0 0), 0, 0⟩ ?_ ?_ ?_
   · exact Qf
   · exact ⟨hm, (Ji _ 0 171 2), ⟨(.inl rfl)⟩, Kz.refl _ _⟩
   clear hm; rintro ⟨n1, a6, a8, vy7, zy7, gy7⟩ w4 ⟨hm, I, C, K4⟩
   have z8 := K4.size
   have hb := Zx hm; clear hm; obtain ⟨n1, rfl, hm⟩ := hb
   generalize X : Qr (Qj6 x2) n1 = a0 at hm
   unfold Qj6 at hm
   try dsimp only at hm
   refine Qe<|qs 4 rfl<|qm rfl<|qm rfl ?_
   have Y := (n.kz K4)
   refine qv rfl (Zo (l := x2) (c := ic) Tryz.underlying31 rfl (Qn.rd Y))<|qv rfl (Zc (a := a8) (b := (x2.length : Int)) rfl rfl)<|Qa<|Zu rfl (fun c2 => ?_) (fun c2 => ?_)
   · replace hm := iF c2 hm
     refine Zl<|Xk<|Xk<|Zk<|Xl<|qs 2 rfl<|qm rfl<|qm rfl<|qb ?_
     have ay := (X7.kz K4)
     cases hm
     refine ⟨_, _, rfl, Qt rfl (Qg rfl), ?_⟩
     exact ⟨vy7, zy7, gy7, rfl, I, ⟨(Jf (A := (fun x => w.heap.size ≤ x)) C)⟩, ay⟩
   replace hm := iT c2 hm
   refine qu<|Qe<|Xi<|qg 9 rfl<|qm rfl<|qm rfl<|qm rfl ?_
   obtain ⟨y9, ae, hm⟩ := Qc hm
   refine qv rfl (Jm (i := a8) Tryz.underlying31 (Qv).siz rfl (Qn.rd Y) rfl ae)<|qv rfl (Vq (q := 0) (u := .int .i64 y9) Qv rfl (Qn.rd Y) ae (by first | rfl | omega) rfl)<|qv rfl (Zv (cs := Xo.cs (Xo.mk y9 0)) Qdb rfl rfl)<|qe rfl (Ve [(Xo.mk y9 0)] Xo.cs Qku rfl rfl (Kx rfl) rfl rfl rfl) ?_
   rintro bf w5 ⟨bg, a1, az, G5⟩
   have bh := G5.size
   have aA := (I.gr G5)
   obtain ⟨aB, af, hm⟩ := Qc hm
   refine qe rfl (Vl (l := a6) (m := [(Xo.mk y9 0)]) (c := Xo.cs) Qkn rfl rfl aA (Qn.rd az) af (by decide)) ?_
   rintro aC w6 ⟨aD, aE, aF, aG, bi, aH⟩
   refine qm rfl<|Qh<|Xy<|Xl<|qg 3 rfl<|qm rfl<|qv rfl (Zg (k := .i64) (a := a8) (b := 1) rfl rfl)<|qm rfl<|Qh ?_
   have K_15 : Kz [] w3 w6 := ((K4.gr G5).ka aG (Qk (Jf (A := (fun x => w3.heap.size ≤ x)) C)))
   subst X
   exact ⟨rfl, ⟨n1, aB, Qi (a8 + 1), aC, aD, aE⟩, Qf, ⟨hm, aF, ⟨(Jg (A := (fun x => w3.heap.size ≤ x)) aH (Jf (A := (fun x => w3.heap.size ≤ x)) C))⟩, K_15⟩, Nat.lt_succ_self _⟩
 replace hm := iF c1 hm
 refine qu<|qs 5 rfl<|qm rfl<|qv rfl (Zv (cs := Xo.cs (Xo.mk 1 0)) Qdb rfl rfl)<|qe rfl (Ve [(Xo.mk 1 0)] Xo.cs Qku rfl rfl (Kx rfl) rfl rfl rfl) ?_
 rintro bj w7 ⟨bk, a2, Z, G7⟩
 have bl := G7.size
 have a3 := Z.lth
 obtain ⟨aI, ag, hm⟩ := Qc hm
 refine qe rfl (Vl (l := ([] : List Xo)) (m := [(Xo.mk 1 0)]) (c := Xo.cs) Qkn rfl rfl (Ji _ 0 171 2) (Qn.rd Z) ag (by decide)) ?_
 rintro aJ w8 ⟨y, z, aK, J, bm, E⟩
 have bo := J.size
 refine qm rfl<|Qa<|Qe<|qs 1 rfl<|qm rfl<|Qa<|Xi ?_
 have aL := ((((((Gr.refl w).trans G1).trans G2).trans G3).trans G7).ka J)
 have aM := ((n.gr G7).ka J)
 have bp := (Z.ka J)
 refine Zq (α := Nat × List Xo × Int × Value × Nat × Nat) ([5, 8, 9, 10] ++ rg 39 31) (fun ⟨n2, F, g, vy16, zy16, gy16⟩ => [(5, vy16), (8, .int .i64 g)]) (fun ⟨n2, F, g, vy16, zy16, gy16⟩ wr => (Qr (Qj7 p0 x2) n2 (F, g) = some r) ∧ Qn wr zy16 gy16 171 2 vy16 (F.map Xo.cs) ∧ Zm (zy16 = 0 ∨ (gy16 = z ∧ y ≠ 0) ∨ w8.heap.size ≤ gy16) ∧ Kz [(y, z)] w8 wr) (fun ⟨n2, F, g, vy16, zy16, gy16⟩ => n2) ⟨Xb, aI, 0, aJ, y, z⟩ ?_ ?_ ?_
 · exact Qf
 · exact ⟨hm, aK, ⟨Qj⟩, Kz.refl _ _⟩
 clear hm; rintro ⟨n2, F, g, vy16, zy16, gy16⟩ w9 ⟨hm, K, s, K9⟩
 have bq := K9.size
 have hb := Zx hm; clear hm; obtain ⟨n2, rfl, hm⟩ := hb
 generalize aa : Qr (Qj7 p0 x2) n2 = P at hm
 unfold Qj7 at hm
 try dsimp only at hm
 refine Qe<|qs 4 rfl<|qm rfl<|qm rfl ?_
 have ah := (aM.kz K9 (Qk ((Jl (Jg (A := (fun x => d = 0 ∨ x ≠ f)) E (.inl rfl) (fun x hx => (Qk W.o)))) : d = 0 ∨ y = 0 ∨ f ≠ z)))
 refine qv rfl (Zo (l := x2) (c := ic) Tryz.underlying31 rfl (Qn.rd ah))<|qv rfl (Zc (a := g) (b := (x2.length : Int)) rfl rfl)<|Qa<|Zu rfl (fun c3 => ?_) (fun c3 => ?_)
 · replace hm := iF c3 hm
   refine Zl<|Xk<|Xk<|Zk<|Xl<|qs 2 rfl<|qm rfl<|qm rfl<|Qa<|Qo ?_
   have aN := (aL.kz K9 (Qk (Jg (A := (fun x => w.heap.size ≤ x)) E (.inl rfl))))
   cases hm
   refine ⟨_, _, rfl, Qt rfl (Qg rfl), ?_⟩
   exact ⟨vy16, zy16, gy16, rfl, K, ⟨(Xc (A := (fun x => w.heap.size ≤ x)) s (Jg (A := (fun x => w.heap.size ≤ x)) E (.inl rfl)))⟩, aN⟩
 replace hm := iT c3 hm
 refine qu<|Qe<|Xi<|qs 3 rfl<|qm rfl<|qv rfl (Zg (k := .i64) (a := g) (b := 1) rfl rfl)<|qm rfl<|Qa<|Xi ?_
 refine Zq (α := Nat × List Xo × Int × Value × Nat × Nat) ([5, 9, 10] ++ rg 47 23) (fun ⟨n3, B, t, vy22, zy22, gy22⟩ => [(5, vy22), (9, .int .i64 t)]) (fun ⟨n3, B, t, vy22, zy22, gy22⟩ wr => (Qr (Qj8 p0 x2 g P) n3 (B, t) = some r) ∧ Qn wr zy22 gy22 171 2 vy22 (B.map Xo.cs) ∧ Zm (zy22 = 0 ∨ (gy22 = gy16 ∧ zy16 ≠ 0) ∨ w9.heap.size ≤ gy22) ∧ Kz [(zy16, gy16)] w9 wr) (fun ⟨n3, B, t, vy22, zy22, gy22⟩ => n3) ⟨Xb, F, Qi (g + 1), vy16, zy16, gy16⟩ ?_ ?_ ?_
 · exact Qf
 · exact ⟨hm, K, ⟨Qj⟩, Kz.refl _ _⟩
 clear hm; rintro ⟨n3, B, t, vy22, zy22, gy22⟩ aO ⟨hm, h, j, G⟩
 have br := G.size
 have Q := h.lth
 have hb := Zx hm; clear hm; obtain ⟨n3, rfl, hm⟩ := hb
 generalize L : Qr (Qj8 p0 x2 g P) n3 = a4 at hm
 unfold Qj8 at hm
 try dsimp only at hm
 refine Qe<|qs 4 rfl<|qm rfl<|qm rfl ?_
 have ai := (ah.kz G (Qk ((Jl (Xc (A := (fun x => d = 0 ∨ x ≠ f)) s (Jg (A := (fun x => d = 0 ∨ x ≠ f)) E (.inl rfl) (fun x hx => (Qk W.o))) (fun x hx => (Qk W.o)))) : d = 0 ∨ zy16 = 0 ∨ f ≠ gy16)))
 refine qv rfl (Zo (l := x2) (c := ic) Tryz.underlying31 rfl (Qn.rd ai))<|qv rfl (Zc (a := t) (b := (x2.length : Int)) rfl rfl)<|Qa<|Zu rfl (fun c4 => ?_) (fun c4 => ?_)
 · replace hm := iF c4 hm
   refine Zl<|Xk<|Xk<|Zk<|Xy<|Xl<|qg 3 rfl<|qm rfl<|qv rfl (Zg (k := .i64) (a := g) (b := 1) rfl rfl)<|qm rfl<|Qh ?_
   have K_45 : Kz [(y, z)] w8 aO := (K9.kz G (Qk (Xc (A := (fun x => (x = z ∧ y ≠ 0) ∨ w8.heap.size ≤ x)) s Qj)))
   subst aa
   exact ⟨rfl, ⟨n2, B, Qi (g + 1), vy22, zy22, gy22⟩, Qf, ⟨hm, h, ⟨(Xc (A := (fun x => (x = z ∧ y ≠ 0) ∨ w8.heap.size ≤ x)) j (Xc (A := (fun x => (x = z ∧ y ≠ 0) ∨ w8.heap.size ≤ x)) s Qj))⟩, K_45⟩, Nat.lt_succ_self _⟩
 replace hm := iT c4 hm
 refine qu<|Qe<|Xi<|Qe<|dw [([])] [] (.leaf [(0,10),(1,10),(2,10),(3,10),(4,10),(5,10),(6,10),(7,10),(8,10),(9,10),(10,0),(11,0)]) ?_
 intro bs aj a5
 refine Zj<|dm 0 rfl rfl<|dm 0 rfl rfl ?_
 obtain ⟨N, R, hm⟩ := Qc hm
 have O := (ai.gr aj)
 refine dh 0 rfl rfl (fun w hS => Jm (i := g) Tryz.underlying31 (Qv).siz rfl (Qn.rd (Qn.kp O hS)) rfl R)<|dh 0 rfl rfl (fun w hS => Vq (q := 0) (u := .int .i64 N) Qv rfl (Qn.rd (Qn.kp O hS)) R (by first | rfl | omega) rfl)<|dm 0 rfl rfl<|dm 0 rfl rfl ?_
 obtain ⟨M, S, hm⟩ := Qc hm
 refine dh 0 rfl rfl (fun w hS => Jm (i := t) Tryz.underlying31 (Qv).siz rfl (Qn.rd (Qn.kp O hS)) rfl S)<|dh 0 rfl rfl (fun w hS => Vq (q := 0) (u := .int .i64 M) Qv rfl (Qn.rd (Qn.kp O hS)) S (by first | rfl | omega) rfl)<|dh 0 rfl rfl (fun w hS => Qvd (a := M) (b := 1) (by simp) rfl rfl)<|dh 0 rfl rfl (fun w hS => Zv (cs := Xo.cs (Xo.mk N (Um .xor M 1))) Qdb rfl rfl)<|qz [] rfl (Xh (cs := Xo.cs (Xo.mk 0 0)) Qhb rfl) ⟨fun _ => Qj, trivial⟩ ?_
 rintro _ bu ⟨aP, rfl, aQ, T, ak⟩
 have a7 := T.lt
 refine kG ak<|qz [(1, aP)] rfl (Qx Wl rfl rfl rfl T rfl rfl) ⟨fun _ => Qj, trivial⟩ ?_
 rintro _ bx ⟨U, D⟩
 have bz := D.size
 refine kM D<|qd 3 rfl ?_
 have Y1 := Gr.trans aj ak
 have aR := ((((((B6.gr G7).ka J).kz K9 (Qk (Hl (b := b1) E (.inl rfl)))).kz G (Qk (Xp (b := b1) s (Hl E (.inl rfl))))).gr Y1).md D)
 refine qv rfl (Qp Zw rfl aR rfl)<|qv rfl (Qp Wl rfl U rfl) ?_
 obtain ⟨bA, al, hm⟩ := Qc hm
 refine qe rfl (eC Qq5 rfl (Qtw al)) ?_
 rintro _ aS ⟨rfl, H⟩
 have bB := H.size
 refine Qa<|Zu rfl (fun c5 => ?_) (fun c5 => ?_)
 · replace hm := Xw c5 hm
   refine Vi<|Xy<|Xl<|qg 3 rfl<|qm rfl<|qv rfl (Zg (k := .i64) (a := t) (b := 1) rfl rfl)<|qm rfl<|Qh ?_
   have K_43 : Kz [(zy16, gy16)] w9 aS := (((G.gr Y1).md D).gr H)
   have aT := (((h.gr Y1).md D (Xd Q)).gr H)
   subst L
   exact ⟨rfl, ⟨n3, B, Qi (t + 1), vy22, zy22, gy22⟩, Qf, ⟨hm, aT, ⟨(Xc (A := (fun x => (x = gy16 ∧ zy16 ≠ 0) ∨ w9.heap.size ≤ x)) j Qj)⟩, K_43⟩, Nat.lt_succ_self _⟩
 replace hm := Xx c5 hm
 refine qg 5 rfl<|qm rfl ?_
 have aU := (U.gr H)
 refine qv rfl (Qp Wl rfl aU rfl)<|qe rfl (Ve [(Xo.mk N (Um .xor M 1))] Xo.cs Qku rfl rfl (Kx rfl) rfl rfl rfl) ?_
 rintro a9 bC ⟨ba, aV, am, ab⟩
 have bD := ab.size
 have aW := ((((h.gr Y1).md D (Xd Q)).gr H).gr ab)
 obtain ⟨aX, an, hm⟩ := Qc hm
 refine qe rfl (Vl (l := B) (m := [(Xo.mk N (Um .xor M 1))]) (c := Xo.cs) Qkn rfl rfl aW (Qn.rd am) an (by decide)) ?_
 rintro ao aY ⟨ap, aq, ar, au, bb, av⟩
 refine qm rfl<|Qh<|Xy<|Xl<|qg 3 rfl<|qm rfl<|qv rfl (Zg (k := .i64) (a := t) (b := 1) rfl rfl)<|qm rfl<|Qh ?_
 have K_42 : Kz [(zy16, gy16)] w9 aY := (((((G.gr Y1).md D).gr H).gr ab).ka au (Qk (Xc (A := (fun x => (x = gy16 ∧ zy16 ≠ 0) ∨ w9.heap.size ≤ x)) j Qj)))
 subst L
 exact ⟨rfl, ⟨n3, aX, Qi (t + 1), ao, ap, aq⟩, Qf, ⟨hm, ar, ⟨(Jg (A := (fun x => (x = gy16 ∧ zy16 ≠ 0) ∨ w9.heap.size ≤ x)) av (Xc (A := (fun x => (x = gy16 ∧ zy16 ≠ 0) ∨ w9.heap.size ≤ x)) j Qj))⟩, K_42⟩, Nat.lt_succ_self _⟩
theorem Xev {p0 p1 r} (hm : Qg3 p0 p1 = some r) {w : World} :
    Calls Tryz.prog 375 [kv p0, .int .i64 p1].toArray w fun e w' => ∃ v, e = .returned v ∧ (v = kv r ∧ Gr w w') := by
 unfold Qg3 at hm
 refine Xe 12 Tryz.func375 rfl rfl rfl<|qs 2 rfl<|qe rfl (Qy (cs := kb p0) rfl rfl) ?_
 rintro _ w1 ⟨b1, rfl, l, c, G1⟩
 have n := c.lt
 refine qe rfl (Xh (cs := kb k0) Zh rfl) ?_
 rintro _ w2 ⟨b2, rfl, m, d, G2⟩
 refine Qa<|Qe<|qs 3 rfl<|qm rfl ?_
 obtain ⟨x1, f, hm⟩ := Qc hm
 refine qv rfl (Hm (a := p1) (b := 2) rfl rfl f)<|qv rfl (Jr (a := x1) (b := 0) rfl rfl)<|Qa<|Xj rfl (fun c1 => ?_) (fun c1 => ?_)
 · replace hm := iT c1 hm
   refine qs 3 rfl ?_
   have B5 := (c.gr G2)
   refine qv rfl (Qp Ql rfl B5 rfl)<|qe rfl (eC Dt rfl (Td p0 (Xf 31#8) (Vy _) (Vx _) 0#64 _)) ?_
   rintro _ w3 ⟨rfl, G3⟩
   have B7 := (d.gr G3)
   refine qe rfl (Qx Ql rfl rfl rfl B7 rfl rfl) ?_
   rintro _ w4 ⟨g, M4⟩
   refine qb ?_
   have X9 := (((((Gr.refl w).trans G1).trans G2).trans G3).md M4)
   cases hm
   refine ⟨_, _, rfl, Qt rfl (Xr Ql rfl g rfl), ?_⟩
   exact ⟨rfl, X9⟩
 replace hm := iF c1 hm
 refine qu<|qs 3 rfl ?_
 have h := (c.gr G2)
 refine qv rfl (Qp Ql rfl h rfl)<|qe rfl (eC Dt rfl (Td p0 (Xf 32#8) (Vy _) (Vx _) 0#64 _)) ?_
 rintro _ w5 ⟨rfl, G5⟩
 have i := (d.gr G5)
 refine qe rfl (Qx Ql rfl rfl rfl i rfl rfl) ?_
 rintro _ w6 ⟨j, M6⟩
 refine Qa<|Qo ?_
 have k := (((((Gr.refl w).trans G1).trans G2).trans G5).md M6)
 cases hm
 refine ⟨_, _, rfl, Qt rfl (Xr Ql rfl j rfl), ?_⟩
 exact ⟨rfl, k⟩
theorem Qu1 {p0 p1 p2 r} (hm : Ig p0 p1 p2 = some r) {w : World} :
    Calls Tryz.prog 348 [kv p0, .int .i64 p1, .int .i64 p2].toArray w fun e w' => ∃ v, e = .returned v ∧ (v = kv r ∧ Gr w w') := by
 unfold Ig at hm
 refine Xe 25 Tryz.func348 rfl rfl rfl<|qs 2 rfl<|qe rfl (Qy (cs := kb p0) rfl rfl) ?_
 rintro _ w1 ⟨b1, rfl, G, j, G1⟩
 have J := j.lt
 refine qe rfl (Xh (cs := kb k0) Zh rfl) ?_
 rintro _ w2 ⟨b2, rfl, H, m, G2⟩
 have K := m.lt
 refine qd 4 rfl<|qm rfl<|qm rfl ?_
 obtain ⟨x1, z, hm⟩ := Qc hm
 refine qe rfl (eC Qlz rfl (Qns z)) ?_
 rintro n w3 ⟨_, o, p, rfl, f, d, G3⟩
 refine qm rfl<|Qa<|Qe<|qs 1 rfl<|qm rfl<|Qa<|Xi ?_
 have X7 := ((((Gr.refl w).trans G1).trans G2).trans G3)
 have B8 := ((j.gr G2).gr G3)
 refine Zq (α := Nat × Int × W2) ([8] ++ rg 12 12) (fun ⟨n1, a4, a5⟩ => [(8, .int .i64 a4)]) (fun ⟨n1, a4, a5⟩ wr => (Qr (Ih x1) n1 (a4, a5) = some r) ∧ Bx wr b1 23 (kb a5) ∧ Kz [(1, b1)] w3 wr) (fun ⟨n1, a4, a5⟩ => n1) ⟨Xb, 1, p0⟩ ?_ ?_ ?_
 · exact Qf
 · exact ⟨hm, B8, Kz.refl _ _⟩
 clear hm; rintro ⟨n1, a4, a5⟩ w4 ⟨hm, g, K4⟩
 have hb := Zx hm; clear hm; obtain ⟨n1, rfl, hm⟩ := hb
 generalize h : Qr (Ih x1) n1 = I at hm
 unfold Ih at hm
 try dsimp only at hm
 refine Qe<|qs 4 rfl<|qm rfl<|qm rfl ?_
 have s := (f.kz K4 (Qk (Jv (b := b1) d)))
 refine qv rfl (Zo (l := x1) (c := ic) Tryz.underlying31 rfl (Qn.rd s))<|qv rfl (Zc (a := a4) (b := (x1.length : Int)) rfl rfl)<|Qa<|Zu rfl (fun c1 => ?_) (fun c1 => ?_)
 · replace hm := iF c1 hm
   refine Zl<|Xk<|Xk<|Zk<|Xl<|qs 2 rfl<|qv rfl (Qp Ql rfl g rfl) ?_
   have A := ((m.gr G3).kz K4)
   refine qe rfl (Qx Ql rfl rfl rfl A rfl rfl) ?_
   rintro _ w8 ⟨B, M8⟩
   refine Qa<|Qo ?_
   have C := ((X7.kz K4).md M8)
   cases hm
   refine ⟨_, _, rfl, Qt rfl (Xr Ql rfl B rfl), ?_⟩
   exact ⟨rfl, C⟩
 replace hm := iT c1 hm
 refine qu<|Qe<|Xi<|dw [([b1]),([])] [(6, [1])] (.leaf [(0,11),(1,10),(2,10),(3,10),(4,10),(5,0),(6,0)]) ?_
 intro w5 G5 L
 refine Zj ?_
 have t := (g.gr G5)
 refine dh 1 rfl rfl (fun w hS => Qp Ql rfl (Bx.kp t hS) rfl)<|dm 0 rfl rfl<|dm 0 rfl rfl ?_
 obtain ⟨y6, x, hm⟩ := Qc hm
 have y := (s.gr G5)
 refine dh 0 rfl rfl (fun w hS => Jm (i := a4) Tryz.underlying31 (Qv).siz rfl (Qn.rd (Qn.kp y hS (Qk (Jv (b := b1) d)))) rfl x)<|dh 0 rfl rfl (fun w hS => Vq (q := 0) (u := .int .i64 y6) Qv rfl (Qn.rd (Qn.kp y hS (Qk (Jv (b := b1) d)))) x (by first | rfl | omega) rfl) ?_
 obtain ⟨x7, D, hm⟩ := Qc hm
 refine qz [] rfl (eC Qzs rfl (Xev D)) ⟨fun _ => Qj, fun _ => Qj, trivial⟩ ?_
 rintro _ w6 ⟨rfl, G6⟩
 refine kG G6 ?_
 have E := (t.gr G6)
 refine qz [(1, b1)] rfl (Qx Ql rfl rfl rfl E rfl rfl) ⟨fun _ => Qj, nofun, trivial⟩ ?_
 rintro _ w7 ⟨F, M7⟩
 refine kM M7<|Qh<|Xy<|Xl<|qg 3 rfl<|qm rfl<|qv rfl (Zg (k := .i64) (a := a4) (b := 1) rfl rfl)<|qm rfl<|Qh ?_
 have K_17 : Kz [(1, b1)] w3 w7 := (((K4.gr G5).gr G6).md M7)
 subst h
 exact ⟨rfl, ⟨n1, Qi (a4 + 1), x7⟩, Qf, ⟨hm, F, K_17⟩, Nat.lt_succ_self _⟩
theorem Qu2 {p0 p1 p2 r} (hm : Ii p0 p1 p2 = some r) {w : World} :
    Calls Tryz.prog 288 [kv p0, .int .i64 p1, .int .i64 p2].toArray w fun e w' => ∃ v, e = .returned v ∧ (v = kv r ∧ Gr w w') := by
 unfold Ii at hm
 refine Xe 14 Tryz.func288 rfl rfl rfl<|qs 2 rfl<|qe rfl (Qy (cs := kb p0) rfl rfl) ?_
 rintro _ w1 ⟨b1, rfl, g, a, G1⟩
 have i := a.lt
 refine qe rfl (Xh (cs := kb k0) Zh rfl) ?_
 rintro _ w2 ⟨b2, rfl, h, b, G2⟩
 refine qd 8 rfl ?_
 have B5 := (a.gr G2)
 refine qv rfl (Qp Ql rfl B5 rfl)<|qm rfl<|qv rfl (Yb Ye rfl)<|qe rfl (eC Dt rfl (Td p0 (Xf 30#8) (Vy _) (Vx _) (wd p1) _)) ?_
 rintro _ w3 ⟨rfl, G3⟩
 refine qm rfl<|qm rfl ?_
 obtain ⟨x1, c, hm⟩ := Qc hm
 refine qe rfl (eC Qqt rfl (Qu1 c)) ?_
 rintro _ w4 ⟨rfl, G4⟩
 have B8 := ((b.gr G3).gr G4)
 refine qe rfl (Qx Ql rfl rfl rfl B8 rfl rfl) ?_
 rintro _ w5 ⟨d, M5⟩
 refine Qa<|Qo ?_
 have f := ((((((Gr.refl w).trans G1).trans G2).trans G3).trans G4).md M5)
 cases hm
 refine ⟨_, _, rfl, Qt rfl (Xr Ql rfl d rfl), ?_⟩
 exact ⟨rfl, f⟩
theorem Qtx {p0 p1 p2 r} (hm : Qfu p0 p1 p2 = some r) {w : World} :
    Calls Tryz.prog 181 [kv p0, .agg (Qs.cs p1).toArray, .agg (Xo.cs p2).toArray].toArray w fun e w' => ∃ v, e = .returned v ∧ (v = kv r ∧ Gr w w') := by
 unfold Qfu at hm
 refine Xe 27 Tryz.func181 rfl rfl rfl<|qs 4 rfl<|qe rfl (Qy (cs := kb p0) rfl rfl) ?_
 rintro _ w1 ⟨b1, rfl, D, c, G1⟩
 have H := c.lt
 refine qe rfl (Qy (cs := Qs.cs p1) rfl rfl) ?_
 rintro _ w2 ⟨b2, rfl, E, h, G2⟩
 have I := h.lt
 refine qe rfl (Qy (cs := Xo.cs p2) rfl rfl) ?_
 rintro _ w3 ⟨b3, rfl, F, d, G3⟩
 have J := d.lt
 refine qe rfl (Xh (cs := kb k0) Zh rfl) ?_
 rintro _ w4 ⟨b4, rfl, G, f, G4⟩
 refine Qa<|Qe<|qs 3 rfl<|qv rfl (Qb Yg rfl) ?_
 have Y1 := Gr.trans G3 G4
 have B9 := (h.gr Y1)
 refine qv rfl (Qd (v := bv p1.Kind) Xs rfl B9 rfl)<|qv rfl (Yz (p := p1.Kind) (q := 1#8) rfl rfl)<|Qa<|Xj rfl (fun c1 => ?_) (fun c1 => ?_)
 · replace hm := iT c1 hm
   refine qs 6 rfl ?_
   have Y2 := Gr.trans G2 Y1
   have k := (c.gr Y2)
   refine qv rfl (Qp Ql rfl k rfl)<|qv rfl (Qb Wt rfl) ?_
   have l := (d.gr G4)
   refine qv rfl (Qd (v := .int .i64 p2.Node) Qv rfl l rfl)<|qv rfl (Yb Ye rfl)<|qe rfl (eC Dt rfl (Td p0 (Xf 30#8) (Vy _) (Vx _) (wd p2.Node) _)) ?_
   rintro _ w5 ⟨rfl, G5⟩
   have m := (f.gr G5)
   refine qe rfl (Qx Ql rfl rfl rfl m rfl rfl) ?_
   rintro _ w6 ⟨n, M6⟩
   refine qb ?_
   have o := (((((Gr.refl w).trans G1).trans Y2).trans G5).md M6)
   cases hm
   refine ⟨_, _, rfl, Qt rfl (Xr Ql rfl n rfl), ?_⟩
   exact ⟨rfl, o⟩
 replace hm := iF c1 hm
 refine qu<|Qe<|qs 3 rfl<|qv rfl (Qb Vu rfl) ?_
 have g := (d.gr G4)
 refine qv rfl (Qd (v := .int .i64 p2.Minus) Qv rfl g rfl)<|qv rfl (Jr (a := p2.Minus) (b := 0) rfl rfl)<|Qa<|Xj rfl (fun c2 => ?_) (fun c2 => ?_)
 · replace hm := iT c2 hm
   refine qs 3 rfl ?_
   have Y3 := Gr.trans G2 Y1
   have s := (c.gr Y3)
   refine qv rfl (Qp Ql rfl s rfl)<|qe rfl (eC Dt rfl (Td p0 (Xf 34#8) (Vy _) (Vx _) 0#64 _)) ?_
   rintro _ w7 ⟨rfl, G7⟩
   have t := (f.gr G7)
   refine qe rfl (Qx Ql rfl rfl rfl t rfl rfl) ?_
   rintro _ w8 ⟨u, M8⟩
   refine qb ?_
   have x := (((((Gr.refl w).trans G1).trans Y3).trans G7).md M8)
   cases hm
   refine ⟨_, _, rfl, Qt rfl (Xr Ql rfl u rfl), ?_⟩
   exact ⟨rfl, x⟩
 replace hm := iF c2 hm
 refine qu<|qs 8 rfl ?_
 have Y4 := Gr.trans G2 Y1
 have y := (c.gr Y4)
 refine qv rfl (Qp Ql rfl y rfl)<|qv rfl (Qb Wt rfl)<|qv rfl (Qd (v := .int .i64 p2.Node) Qv rfl g rfl)<|qv rfl (Qb Vu rfl)<|qv rfl (Qd (v := .int .i64 p2.Minus) Qv rfl g rfl) ?_
 obtain ⟨x1, z, hm⟩ := Qc hm
 refine qe rfl (eC Qql rfl (Qu2 z)) ?_
 rintro _ w9 ⟨rfl, G9⟩
 refine qe rfl (eC Dt rfl (Td x1 (Xf 33#8) (Vy _) (Vx _) 0#64 _)) ?_
 rintro _ K ⟨rfl, i⟩
 have A := ((f.gr G9).gr i)
 refine qe rfl (Qx Ql rfl rfl rfl A rfl rfl) ?_
 rintro _ L ⟨j, B⟩
 refine Qa<|Qo ?_
 have C := ((((((Gr.refl w).trans G1).trans Y4).trans G9).trans i).md B)
 cases hm
 refine ⟨_, _, rfl, Qt rfl (Xr Ql rfl j rfl), ?_⟩
 exact ⟨rfl, C⟩
theorem Xeo {p0 p1 p2 r} (hm : Qjd p0 p1 p2 = some r) {w : World} :
    Calls Tryz.prog 195 [kv p0, .agg (Qs.cs p1).toArray, .int .i64 p2].toArray w fun e w' => ∃ v, e = .returned v ∧ (∃ ur0_1 zr0_1 gr0_1, v = .agg (Qq.cs r ur0_1).toArray ∧ Qn w' zr0_1 gr0_1 72 18 ur0_1 (r.Labels.map Xn.cs) ∧ Zm (zr0_1 = 0 ∨ w.heap.size ≤ gr0_1) ∧ Gr w w') := by
 unfold Qjd at hm
 refine Xe 65 Tryz.func195 rfl rfl rfl<|qs 3 rfl<|qe rfl (Qy (cs := kb p0) rfl rfl) ?_
 rintro _ w1 ⟨b1, rfl, bh, X, G1⟩
 have bx := X.lt
 refine qe rfl (Qy (cs := Qs.cs p1) rfl rfl) ?_
 rintro _ w2 ⟨b2, rfl, bi, ae, G2⟩
 have bz := ae.lt
 refine qe rfl (Xh (cs := Qq.cs (Qq.mk 0 [] (Qu.mk 0#64 0#64)) (.slice none 0 0)) Gl rfl) ?_
 rintro _ w3 ⟨b3, rfl, bj, af, G3⟩
 have bA := af.lt
 refine qd 4 rfl<|qm rfl<|qv rfl (Zv (cs := Qq.cs (Qq.mk p2 [] (Qu.mk 0#64 0#64)) (.slice none 0 0)) Da rfl rfl)<|qe rfl (Xh (cs := Qq.cs (Qq.mk 0 [] (Qu.mk 0#64 0#64)) (.slice none 0 0)) Gl rfl) ?_
 rintro _ w4 ⟨b4, rfl, bk, ag, G4⟩
 have bB := ag.lt
 refine qe rfl (Qx Jc rfl rfl (Qq.cs_ones _ _ rfl) ag rfl rfl) ?_
 rintro _ w5 ⟨aM, M5⟩
 have z9 := M5.size
 refine qd 4 rfl ?_
 have Y1 := Gr.trans G3 G4
 have ah := ((ae.gr Y1).md M5)
 refine qv rfl (Qp Zw rfl ah rfl)<|qm rfl ?_
 obtain ⟨x1, aN, hm⟩ := Qc hm
 refine qe rfl (eC Qz1 rfl (Xel aN)) ?_
 rintro ai w6 ⟨_, d, f, rfl, s, j, G6⟩
 have bC := G6.size
 have n := s.lth
 refine qm rfl<|Qa<|Qe<|qs 1 rfl<|qm rfl<|Qa<|Xi ?_
 have aj := ((((((Gr.refl w).trans G1).trans G2).trans Y1).md M5).trans G6)
 have aO := (aM.gr G6)
 refine Zq (α := Nat × Int × List Xn × Value × Nat × Nat) ([9, 10] ++ rg 16 48) (fun ⟨n1, a5, a6, vy7, zy7, gy7⟩ => [(9, .int .i64 a5)]) (fun ⟨n1, a5, a6, vy7, zy7, gy7⟩ wr => (Qr (Me p0 p1 p2 x1) n1 (a5, a6) = some r) ∧ Qn wr zy7 gy7 72 18 vy7 (a6.map Xn.cs) ∧ Zm (zy7 = 0 ∨ w6.heap.size ≤ gy7) ∧ Bx wr b4 52 (Qq.cs (Qq.mk p2 a6 (Qu.mk 0#64 0#64)) vy7) ∧ Kz [(1, b4)] w6 wr) (fun ⟨n1, a5, a6, vy7, zy7, gy7⟩ => n1) ⟨Xb, 0, [], (.slice none 0 0), 0, 0⟩ ?_ ?_ ?_
 · exact Qf
 · exact ⟨hm, (Ji _ 0 72 18), ⟨(.inl rfl)⟩, aO, Kz.refl _ _⟩
 clear hm; rintro ⟨n1, a5, a6, vy7, zy7, gy7⟩ w7 ⟨hm, p, g, t, K7⟩
 have bD := K7.size
 have M := p.lth
 have bl := t.lt
 have hb := Zx hm; clear hm; obtain ⟨n1, rfl, hm⟩ := hb
 generalize Y : Qr (Me p0 p1 p2 x1) n1 = N at hm
 unfold Me at hm
 try dsimp only at hm
 refine Qe<|qs 4 rfl<|qm rfl<|qm rfl ?_
 have G := (s.kz K7 (Qk (Jv (b := b4) j)))
 refine qv rfl (Zo (l := x1) (c := Xo.cs) Tryz.underlying202 rfl (Qn.rd G))<|qv rfl (Zc (a := a5) (b := (x1.length : Int)) rfl rfl)<|Qa<|Zu rfl (fun c1 => ?_) (fun c1 => ?_)
 · replace hm := iF c1 hm
   refine Zl<|Xk<|Xk<|Zk<|Xl<|qs 2 rfl<|qv rfl (Qp Jc rfl t rfl) ?_
   have aP := ((((af.gr G4).md M5).gr G6).kz K7)
   refine qe rfl (Qx Jc rfl rfl (Qq.cs_ones _ _ (Qn.oneB p)) aP rfl rfl) ?_
   rintro _ bE ⟨ak, al⟩
   refine Qa<|Qo ?_
   have aQ := (p.md al (Jv g))
   have aR := ((aj.kz K7).md al)
   cases hm
   refine ⟨_, _, rfl, Qt rfl (Xr Jc rfl ak rfl), ?_⟩
   exact ⟨vy7, zy7, gy7, rfl, aQ, ⟨(Jf (A := (fun x => w.heap.size ≤ x)) g)⟩, aR⟩
 replace hm := iT c1 hm
 refine qu<|Qe<|Xi ?_
 have bF := (aj.kz K7)
 refine qj (β := W2 × Nat) ([10] ++ rg 22 7) (fun ⟨a9, bq8⟩ => [(10, .pointer (some ⟨bq8, 0, none⟩))]) (fun ⟨a9, bq8⟩ wr => (Qje p0 x1 a5 a6 N a9 = some r) ∧ Bx wr bq8 23 (kb a9) ∧ w7.heap.size ≤ bq8 ∧ Kz [] w7 wr) ?_ ?_
 · refine dw [([])] [] (.fork [(0,10),(1,10),(2,10),(3,10),(4,10),(5,10)] (.leaf [(6,0),(7,0),(8,0)]) (.leaf [(7,0),(6,0),(8,0)])) ?_
   intro bG C bm
   refine Pb ?_
   have aS := ((((((X.gr G2).gr Y1).md M5).gr G6).kz K7).gr C)
   refine dh 0 rfl rfl (fun w hS => Qp Ql rfl (Bx.kp aS hS) rfl) ?_
   have aT := (((ah.gr G6).kz K7).gr C)
   refine dh 0 rfl rfl (fun w hS => Qp Zw rfl (Bx.kp aT hS) rfl)<|dm 0 rfl rfl<|dm 0 rfl rfl ?_
   obtain ⟨bH, O, hm⟩ := Qc hm
   have am := (G.gr C)
   refine dh 0 rfl rfl (fun w hS => Jm (i := a5) Tryz.underlying202 (Wl).siz rfl (Qn.rd (Qn.kp am hS)) rfl O)<|dh 0 rfl rfl (fun w hS => Hc Wl rfl (Qn.rd (Qn.kp am hS)) O (by first | rfl | omega))<|Hz ?_ ?_
   · refine Zj ?_
     obtain ⟨aU, an, hm⟩ := Qc hm
     refine qz [] rfl (eC Qq6 rfl (Qtx an)) ⟨fun _ => Qj, trivial⟩ ?_
     rintro _ bI ⟨rfl, Z⟩
     have bJ := Z.size
     refine kG Z<|qz [] rfl (Xh (cs := kb k0) Zh rfl) ⟨fun _ => Qj, trivial⟩ ?_
     rintro _ bK ⟨ao, rfl, aV, ap, aq⟩
     refine kG aq<|qz [(1, ao)] rfl (Qx Ql rfl rfl rfl ap rfl rfl) ⟨fun _ => Qj, trivial⟩ ?_
     rintro _ bL ⟨ar, au⟩
     refine kM au<|Qh ?_
     exact ⟨rfl, ⟨aU, ao⟩, Qf, hm, ar, (by omega), ((((Qz.gr C).gr Z).gr aq).md au)⟩
   refine Zj<|qz [] rfl (Xh (cs := kb k0) Zh rfl) ⟨fun _ => Qj, trivial⟩ ?_
   rintro _ bM ⟨av, rfl, aW, aw, ax⟩
   refine kG ax ?_
   obtain ⟨aX, ay, hm⟩ := Qc hm
   refine qz [] rfl (eC Qq6 rfl (Qtx ay)) ⟨fun _ => Qj, trivial⟩ ?_
   rintro _ bN ⟨rfl, aa⟩
   refine kG aa ?_
   have aY := (aw.gr aa)
   refine qz [(1, av)] rfl (Qx Ql rfl rfl rfl aY rfl rfl) ⟨fun _ => Qj, trivial⟩ ?_
   rintro _ bO ⟨az, aA⟩
   refine kM aA<|Qh ?_
   exact ⟨rfl, ⟨aX, av⟩, Qf, hm, az, (by omega), ((((Qz.gr C).gr ax).gr aa).md aA)⟩
 clear hm; rintro ⟨a9, bq8⟩ w8 ⟨hm, D, aZ, K8⟩
 unfold Qje at hm
 refine qj (β := W2) (rg 29 18) (fun y => []) (fun y wr => (Qfz x1 a5 a6 N y = some r) ∧ Bx wr bq8 23 (kb y) ∧ Kz [(1, bq8)] w8 wr) ?_ ?_
 · refine qs 6 rfl<|qm rfl<|qm rfl ?_
   obtain ⟨aB, P, hm⟩ := Qc hm
   have ab := (G.kz K8)
   refine qv rfl (Jm (i := a5) Tryz.underlying202 (Wl).siz rfl (Qn.rd ab) rfl P)<|qv rfl (Qb Vu rfl)<|qv rfl (Vq (q := 1) (u := .int .i64 aB.Minus) Qv rfl (Qn.rd ab) P (by first | rfl | omega) rfl)<|qv rfl (Jw (a := aB.Minus) (b := 0) rfl rfl)<|Qa<|Zu rfl (fun c2 => ?_) (fun c2 => ?_)
   · replace hm := iF c2 hm
     refine Vi ?_
     exact ⟨rfl, a9, Qf, hm, D, (Kz.refl _ _)⟩
   replace hm := iT c2 hm
   refine dw [([bq8])] [] (.leaf [(0,10),(1,10),(2,10),(3,10),(4,10),(5,10),(6,10),(7,10),(8,10),(9,10),(10,10),(11,0),(12,0)]) ?_
   intro bP H bo
   refine Zj ?_
   have a0 := (((((((X.gr G2).gr Y1).md M5).gr G6).kz K7).kz K8).gr H)
   refine dh 0 rfl rfl (fun w hS => Qp Ql rfl (Bx.kp a0 hS) rfl)<|dm 0 rfl rfl<|dm 0 rfl rfl ?_
   obtain ⟨a1, Q, hm⟩ := Qc hm
   have I := (ab.gr H)
   refine dh 0 rfl rfl (fun w hS => Jm (i := a5) Tryz.underlying202 (Wl).siz rfl (Qn.rd (Qn.kp I hS (Qk (Xd (b := bq8) n)))) rfl Q)<|dh 0 rfl rfl (fun w hS => Qb Wt rfl)<|dh 0 rfl rfl (fun w hS => Vq (q := 0) (u := .int .i64 a1.Node) Qv rfl (Qn.rd (Qn.kp I hS (Qk (Xd (b := bq8) n)))) Q (by first | rfl | omega) rfl)<|dm 0 rfl rfl<|dm 0 rfl rfl ?_
   obtain ⟨a2, R, hm⟩ := Qc hm
   refine dh 0 rfl rfl (fun w hS => Jm (i := a5) Tryz.underlying202 (Wl).siz rfl (Qn.rd (Qn.kp I hS (Qk (Xd (b := bq8) n)))) rfl R)<|dh 0 rfl rfl (fun w hS => Qb Vu rfl)<|dh 0 rfl rfl (fun w hS => Vq (q := 1) (u := .int .i64 a2.Minus) Qv rfl (Qn.rd (Qn.kp I hS (Qk (Xd (b := bq8) n)))) R (by first | rfl | omega) rfl) ?_
   obtain ⟨a3, aC, hm⟩ := Qc hm
   refine qz [] rfl (eC Qql rfl (Qu2 aC)) ⟨fun _ => Qj, trivial⟩ ?_
   rintro _ bQ ⟨rfl, ac⟩
   refine kG ac ?_
   have a4 := ((D.gr H).gr ac)
   refine qz [(1, bq8)] rfl (Qx Ql rfl rfl rfl a4 rfl rfl) ⟨fun _ => Qj, trivial⟩ ?_
   rintro _ bR ⟨aD, aE⟩
   refine kM aE<|Qh ?_
   exact ⟨rfl, a3, Qf, hm, aD, (((Kz.gr (Kz.refl _ _) H).gr ac).md aE)⟩
 clear hm; rintro y w9 ⟨hm, E, K9⟩
 have bp := E.lt
 unfold Qfz at hm
 refine dw [([b4] ++ zf zy7 gy7),([] ++ zf zy7 gy7)] [(17, [1])] (.leaf [(0,10),(1,11),(2,10),(3,10),(4,10),(5,10),(6,10),(7,10),(8,10),(9,10),(10,10),(11,10),(12,10),(13,10),(14,0),(15,0),(16,10),(17,0)]) ?_
 intro h F bq
 refine Zj<|qh 0 rfl rfl (Kp.refl ([b4] ++ zf zy7 gy7) h) (fun w hS => Qb Ho rfl) ?_
 have aF := (((t.kz K8).kz K9).gr F)
 refine qh 1 rfl rfl (Kp.refl ([] ++ zf zy7 gy7) h) (fun w hS => Qd (v := vy7) Hk rfl (Bx.kp aF hS (Qk (Jv (b := b4) g))) rfl)<|dn 0 rfl rfl (Kp.refl ([b4] ++ zf zy7 gy7) h)<|dn 0 rfl rfl (Kp.refl ([b4] ++ zf zy7 gy7) h) ?_
 obtain ⟨J, S, hm⟩ := Qc hm
 have K := (((G.kz K8).kz K9 (Qk (Xd (b := bq8) n))).gr F)
 refine qh 0 rfl rfl (Kp.refl ([b4] ++ zf zy7 gy7) h) (fun w hS => Jm (i := a5) Tryz.underlying202 (Wl).siz rfl (Qn.rd (Qn.kp K hS (Ke (Jv (b := b4) j) ((Jl (Jf (A := (fun x => d = 0 ∨ x ≠ f)) g (fun x hx => (Qk n.o)))) : d = 0 ∨ zy7 = 0 ∨ f ≠ gy7)))) rfl S)<|qh 0 rfl rfl (Kp.refl ([b4] ++ zf zy7 gy7) h) (fun w hS => Qb Wt rfl)<|qh 0 rfl rfl (Kp.refl ([b4] ++ zf zy7 gy7) h) (fun w hS => Vq (q := 0) (u := .int .i64 J.Node) Qv rfl (Qn.rd (Qn.kp K hS (Ke (Jv (b := b4) j) ((Jl (Jf (A := (fun x => d = 0 ∨ x ≠ f)) g (fun x hx => (Qk n.o)))) : d = 0 ∨ zy7 = 0 ∨ f ≠ gy7)))) S (by first | rfl | omega) rfl)<|dn 0 rfl rfl (Kp.refl ([b4] ++ zf zy7 gy7) h)<|dn 0 rfl rfl (Kp.refl ([b4] ++ zf zy7 gy7) h) ?_
 obtain ⟨L, T, hm⟩ := Qc hm
 refine qh 0 rfl rfl (Kp.refl ([b4] ++ zf zy7 gy7) h) (fun w hS => Jm (i := a5) Tryz.underlying202 (Wl).siz rfl (Qn.rd (Qn.kp K hS (Ke (Jv (b := b4) j) ((Jl (Jf (A := (fun x => d = 0 ∨ x ≠ f)) g (fun x hx => (Qk n.o)))) : d = 0 ∨ zy7 = 0 ∨ f ≠ gy7)))) rfl T)<|qh 0 rfl rfl (Kp.refl ([b4] ++ zf zy7 gy7) h) (fun w hS => Qb Vu rfl)<|qh 0 rfl rfl (Kp.refl ([b4] ++ zf zy7 gy7) h) (fun w hS => Vq (q := 1) (u := .int .i64 L.Minus) Qv rfl (Qn.rd (Qn.kp K hS (Ke (Jv (b := b4) j) ((Jl (Jf (A := (fun x => d = 0 ∨ x ≠ f)) g (fun x hx => (Qk n.o)))) : d = 0 ∨ zy7 = 0 ∨ f ≠ gy7)))) T (by first | rfl | omega) rfl) ?_
 have a7 := (E.gr F)
 refine qh 0 rfl rfl (Kp.refl ([b4] ++ zf zy7 gy7) h) (fun w hS => Qp Ql rfl (Bx.kp a7 hS (Qk (Xd (b := bq8) M))) rfl)<|qh 0 rfl rfl (Kp.refl ([b4] ++ zf zy7 gy7) h) (fun w hS => Zv (cs := Xn.cs (Xn.mk J.Node L.Minus y)) Qpb rfl (Pq rfl rfl rfl (Pq rfl rfl rfl (Pq rfl rfl rfl (by kernel_rfl)))))<|qz [] rfl (Ve [(Xn.mk J.Node L.Minus y)] Xn.cs Qpe rfl rfl (Kx rfl) rfl rfl rfl) ⟨fun _ => Qj, fun _ => Qj, trivial⟩ ?_
 rintro br bS ⟨bs, a8, aG, B⟩
 have bT := B.size
 refine kG B ?_
 have ba := ((((p.kz K8).kz K9 (Qk (Xd (b := bq8) M))).gr F).gr B)
 obtain ⟨aH, aI, hm⟩ := Qc hm
 refine qz [(zy7, gy7)] rfl (Vl (l := a6) (m := [(Xn.mk J.Node L.Minus y)]) (c := Xn.cs) Qhh rfl rfl ba (Qn.rd aG) aI (by decide)) ⟨fun _ => (Qk (Qj : zy7 = 0 ∨ (gy7 = gy7 ∧ zy7 ≠ 0) ∨ h.heap.size ≤ gy7)), fun _ => (Qk (Qj : zy7 = 0 ∨ (gy7 = gy7 ∧ zy7 ≠ 0) ∨ h.heap.size ≤ gy7)), trivial⟩ ?_
 rintro U bU ⟨aJ, aK, V, z, bu, W⟩
 refine ⟨Kz.ofKa z, ?_⟩
 have bb := (((Kp.refl ([b4] ++ zf zy7 gy7) h).gr B).ka z (Qk (Qj : zy7 = 0 ∨ (gy7 = gy7 ∧ zy7 ≠ 0) ∨ h.heap.size ≤ gy7)))
 refine qh 0 rfl rfl bb (fun w hS => Qb Ho rfl) ?_
 have bd := ((aF.gr B).ka z (Qk (Jv (b := b4) g)))
 refine qz [(1, b4)] rfl (Hn (cs' := Qq.cs (Qq.mk p2 aH (Qu.mk 0#64 0#64)) U) (Hk).siz rfl rfl (Qn.oneB V) bd rfl rfl) ⟨fun _ => Qj, nofun, trivial⟩ ?_
 rintro _ bf ⟨aL, ad⟩
 refine kM ad<|Qh<|Xy<|Xl<|qg 3 rfl<|qm rfl<|qv rfl (Zg (k := .i64) (a := a5) (b := 1) rfl rfl)<|qm rfl<|Qh ?_
 have K_35 : Kz [(1, b4)] w6 bf := ((((((K7.kz K8).kz K9).gr F).gr B).ka z (Qk (Jf (A := (fun x => w6.heap.size ≤ x)) g))).md ad)
 have bg := (V.md ad (Hl W (Jv g)))
 subst Y
 exact ⟨rfl, ⟨n1, Qi (a5 + 1), aH, U, aJ, aK⟩, Qf, ⟨hm, bg, ⟨(Jg (A := (fun x => w6.heap.size ≤ x)) W (Jf (A := (fun x => w6.heap.size ≤ x)) g))⟩, aL, K_35⟩, Nat.lt_succ_self _⟩
theorem Xep {p0 p1 p2 r} (hm : Qcb p0 p1 p2 = some r) {w : World} :
    Calls Tryz.prog 119 [kv p0, .agg (Qs.cs p1).toArray, .int .i64 p2].toArray w fun e w' => ∃ v, e = .returned v ∧ (∃ ur0_1 zr0_1 gr0_1, v = .tuple [.agg (Qq.cs r.1 ur0_1).toArray, .int .i64 r.2].toArray ∧ Qn w' zr0_1 gr0_1 72 18 ur0_1 (r.1.Labels.map Xn.cs) ∧ Zm (zr0_1 = 0 ∨ w.heap.size ≤ gr0_1) ∧ Gr w w') := by
 unfold Qcb at hm
 refine Xe 22 Tryz.func119 rfl rfl rfl<|qs 4 rfl<|qe rfl (Qy (cs := kb p0) rfl rfl) ?_
 rintro _ w1 ⟨b1, rfl, D, h, G1⟩
 have G := h.lt
 refine qe rfl (Qy (cs := Qs.cs p1) rfl rfl) ?_
 rintro _ w2 ⟨b2, rfl, E, i, G2⟩
 have H := i.lt
 refine qe rfl (Xh (cs := Qq.cs (Qq.mk 0 [] (Qu.mk 0#64 0#64)) (.slice none 0 0)) Gl rfl) ?_
 rintro _ w3 ⟨b3, rfl, F, g, G3⟩
 have I := g.lt
 refine qm rfl<|Qa<|Qe<|qs 3 rfl ?_
 have B7 := (i.gr G3)
 refine qv rfl (Qp Zw rfl B7 rfl) ?_
 obtain ⟨x1, k, hm⟩ := Qc hm
 refine qe rfl (eC Qll rfl (Qnt k)) ?_
 rintro _ w4 ⟨rfl, G4⟩
 have z8 := G4.size
 refine qv rfl (Jb rfl)<|Qa<|Xj rfl (fun c1 => ?_) (fun c1 => ?_)
 · replace hm := Xx c1 hm
   refine qs 3 rfl<|qv rfl (Zv (cs := Qq.cs (Qq.mk 0 [] (Qu.mk 0#64 0#64)) (.slice none 0 0)) Da rfl rfl) ?_
   have B9 := (g.gr G4)
   refine qe rfl (Qx Jc rfl rfl (Qq.cs_ones _ _ rfl) B9 rfl rfl) ?_
   rintro _ w5 ⟨l, M5⟩
   refine qm rfl<|qb ?_
   have Y1 := Gr.trans (Gr.trans (Gr.trans G1 G2) G3) G4
   have m := (((Gr.refl w).trans Y1).md M5)
   cases hm
   refine ⟨_, _, rfl, Zb rfl (Xr Jc rfl l rfl) (Qg rfl), ?_⟩
   exact ⟨(.slice none 0 0), 0, 0, rfl, (Ji _ 0 72 18), ⟨.inl rfl⟩, m⟩
 replace hm := Xw c1 hm
 refine qu<|Qe<|qs 5 rfl<|qv rfl (Qb Wu rfl) ?_
 have j := (B7.gr G4)
 refine qv rfl (Qd (v := .int .i64 p1.Depth) Qv rfl j rfl)<|qm rfl ?_
 obtain ⟨x2, n, hm⟩ := Qc hm
 refine qe rfl (eC Qyg rfl (Xeu n)) ?_
 rintro _ w6 ⟨rfl, G6⟩
 have J := G6.size
 refine qv rfl (Jb rfl)<|Qa<|Xj rfl (fun c2 => ?_) (fun c2 => ?_)
 · replace hm := Xx c2 hm
   refine qs 3 rfl<|qv rfl (Zv (cs := Qq.cs (Qq.mk 0 [] (Qu.mk 0#64 0#64)) (.slice none 0 0)) Da rfl rfl) ?_
   have Y2 := Gr.trans G4 G6
   have o := (g.gr Y2)
   refine qe rfl (Qx Jc rfl rfl (Qq.cs_ones _ _ rfl) o rfl rfl) ?_
   rintro _ w7 ⟨p, M7⟩
   refine qm rfl<|qb ?_
   have Y3 := Gr.trans (Gr.trans (Gr.trans G1 G2) G3) Y2
   have q := (((Gr.refl w).trans Y3).md M7)
   cases hm
   refine ⟨_, _, rfl, Zb rfl (Xr Jc rfl p rfl) (Qg rfl), ?_⟩
   exact ⟨(.slice none 0 0), 0, 0, rfl, (Ji _ 0 72 18), ⟨.inl rfl⟩, q⟩
 replace hm := Xw c2 hm
 refine qu<|qs 6 rfl ?_
 have Y4 := Gr.trans (Gr.trans (Gr.trans G2 G3) G4) G6
 have s := (h.gr Y4)
 refine qv rfl (Qp Ql rfl s rfl) ?_
 have t := (j.gr G6)
 refine qv rfl (Qp Zw rfl t rfl)<|qm rfl ?_
 obtain ⟨x3, u, hm⟩ := Qc hm
 refine qe rfl (eC Qyh rfl (Xeo u)) ?_
 rintro _ w8 ⟨c, d, f, rfl, a, b, G8⟩
 have y := (((g.gr G4).gr G6).gr G8)
 refine qe rfl (Qx Jc rfl rfl (Qq.cs_ones _ _ (Qn.oneB a)) y rfl rfl) ?_
 rintro _ w9 ⟨z, M9⟩
 refine qm rfl<|Qa<|Qo ?_
 have B := (a.md M9 (Jv b))
 have C := (((((Gr.refl w).trans G1).trans Y4).trans G8).md M9)
 cases hm
 refine ⟨_, _, rfl, Zb rfl (Xr Jc rfl z rfl) (Qg rfl), ?_⟩
 exact ⟨c, d, f, rfl, B, ⟨(Jf (A := (fun x => w.heap.size ≤ x)) b)⟩, C⟩
end Go.Proofs.YtgdojjniakpadaaGreat.Mx
