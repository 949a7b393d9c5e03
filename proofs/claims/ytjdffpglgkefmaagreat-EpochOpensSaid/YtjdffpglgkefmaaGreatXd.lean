/- Walks that follow mirrors: Xd. Printed by mx.py. -/
import Derived.Test.YtjdffpglgkefmaaGreatXc
import Derived.Test.YtjdffpglgkefmaaGreatZd
set_option linter.unusedVariables false
set_option linter.unusedSimpArgs false
set_option maxRecDepth 100000
set_option maxHeartbeats 2000000
namespace Go.Proofs.YtjdffpglgkefmaaGreat.Mx
open Go Go.RowKit Go.Sx
theorem Qht : Agg Tryz.prog 65 5 := fun _ => ⟨by kernel_rfl, by kernel_rfl⟩
theorem Qiu : FA Tryz.prog 65 1 1 := fun _ _ _ => by kernel_rfl
theorem Qje : FA Tryz.prog 65 0 0 := fun _ _ _ => by kernel_rfl
theorem Qrw : FA Tryz.prog 65 2 2 := fun _ _ _ => by kernel_rfl
theorem Qll : FA Tryz.prog 65 3 3 := fun _ _ _ => by kernel_rfl
theorem Qp9 : FA Tryz.prog 65 4 4 := fun _ _ _ => by kernel_rfl
theorem Xgv : En Tryz.prog 56 := fun _ _ => by kernel_rfl
theorem Xb4 : En Tryz.prog 67 := fun _ _ => by kernel_rfl
theorem Xry : En Tryz.prog 173 := fun _ _ => by kernel_rfl
theorem Xsj : En Tryz.prog 91 := fun _ _ => by kernel_rfl
theorem Xu6 : En Tryz.prog 92 := fun _ _ => by kernel_rfl
theorem Xpw : En Tryz.prog 90 := fun _ _ => by kernel_rfl
theorem Xv8 : ZV Tryz.prog 3 (.int .i64 0) := fun _ => by kernel_rfl
theorem Qpf : BSl Tryz.prog 44 1 3 1 [.int .i64 0] := Qr9 Tryz.underlying44 (Qaw).siz Xv8 rfl rfl (by kernel_rfl)
theorem Xpi : ApT Tryz.prog 44 3 1 8 := Qug Tryz.underlying44 rfl (by kernel_rfl)
theorem Xph : En Tryz.prog 93 := fun _ _ => by kernel_rfl
theorem Xmd : En Tryz.prog 174 := fun _ _ => by kernel_rfl
theorem Qna : CV Tryz.prog 5 3 .i64 := fun _ _ _ => by kernel_rfl
theorem Xqd : En Tryz.prog 94 := fun _ _ => by kernel_rfl
theorem Xrr : En Tryz.prog 95 := fun _ _ => by kernel_rfl
theorem Qm4 : ZV Tryz.prog 52 (.agg [.int .u8 0, .int .i64 0, .slice none 0 0, .int .u64 0, .slice none 0 0, .int .u8 0, .int .u8 0, .int .u8 0, .int .u8 0, .int .u8 0, .int .u8 0, .int .u8 0, .int .u8 0, .int .u8 0, .int .u8 0, .int .u8 0, .int .u8 0, .int .u8 0, .int .u8 0, .int .u8 0, .int .u8 0, .int .u8 0, .int .u8 0, .int .u8 0, .int .u8 0, .int .u8 0, .int .u8 0, .int .u8 0, .int .u8 0, .int .u8 0, .int .u8 0, .int .u8 0, .int .u8 0, .int .u8 0, .int .u8 0, .int .u8 0, .int .u8 0, .int .u8 0, .int .u64 0, .slice none 0 0, .int .u8 0, .int .u8 0, .int .u8 0, .int .u8 0, .int .u8 0, .int .u8 0, .int .u8 0, .int .u8 0, .int .u8 0, .int .u8 0, .int .u8 0, .int .u8 0, .int .u8 0, .int .u8 0, .int .u8 0, .int .u8 0].toArray) := fun _ => by kernel_rfl
theorem Xl2 : En Tryz.prog 61 := fun _ _ => by kernel_rfl
theorem Qfw : ZV Tryz.prog 122 (.agg [.nilFunc, .nilFunc, .nilFunc, .nilFunc].toArray) := fun _ => by kernel_rfl
theorem Qsn : One Tryz.prog 40 := fun _ => ⟨by kernel_rfl, by kernel_rfl⟩
theorem Xik : One Tryz.prog 36 := fun _ => ⟨by kernel_rfl, by kernel_rfl⟩
theorem Xfj : One Tryz.prog 58 := fun _ => ⟨by kernel_rfl, by kernel_rfl⟩
theorem Xc9 : One Tryz.prog 106 := fun _ => ⟨by kernel_rfl, by kernel_rfl⟩
theorem Qlp : BS Tryz.prog 122 (fun i => [(0, 1), (1, 1), (2, 1), (3, 1)][i]?) [.nilFunc, .nilFunc, .nilFunc, .nilFunc] := Qr5 Tryz.underlying122 Qfw ⟨rfl, (Qsn).siz, rfl, (Xik).siz, rfl, (Xfj).siz, rfl, (Xc9).siz, trivial⟩
theorem Qav : Agg Tryz.prog 122 4 := fun _ => ⟨by kernel_rfl, by kernel_rfl⟩
theorem Qzv : ZV Tryz.prog 206 (.agg [.nilFunc, .nilFunc, .nilFunc, .nilFunc, .nilFunc, .nilFunc, .nilFunc, .nilFunc, .nilFunc, .nilFunc, .nilFunc, .nilFunc, .nilFunc, .nilFunc, .nilFunc, .nilFunc, .nilFunc, .nilFunc, .nilFunc, .nilFunc].toArray) := fun _ => by kernel_rfl
theorem Xd3 : BA Tryz.prog 206 4 [.nilFunc, .nilFunc, .nilFunc, .nilFunc, .nilFunc, .nilFunc, .nilFunc, .nilFunc, .nilFunc, .nilFunc, .nilFunc, .nilFunc, .nilFunc, .nilFunc, .nilFunc, .nilFunc, .nilFunc, .nilFunc, .nilFunc, .nilFunc] := ⟨_, _, Tryz.underlying206, (Qav).siz, Qzv⟩
theorem Qxy : Agg Tryz.prog 206 20 := fun _ => ⟨by kernel_rfl, by kernel_rfl⟩
theorem Qne : FA Tryz.prog 122 0 0 := fun _ _ _ => by kernel_rfl
theorem Xun : En Tryz.prog 51 := fun _ _ => by kernel_rfl
theorem Xtb : En Tryz.prog 52 := fun _ _ => by kernel_rfl
theorem Xd7 : FA Tryz.prog 122 3 3 := fun _ _ _ => by kernel_rfl
theorem Xeu : En Tryz.prog 15 := fun _ _ => by kernel_rfl
theorem Xsb : En Tryz.prog 138 := fun _ _ => by kernel_rfl
theorem Xdm : En Tryz.prog 139 := fun _ _ => by kernel_rfl
theorem Xuq : En Tryz.prog 49 := fun _ _ => by kernel_rfl
theorem Xsp : En Tryz.prog 23 := fun _ _ => by kernel_rfl
theorem Qmm : One Tryz.prog 50 := fun _ => ⟨by kernel_rfl, by kernel_rfl⟩
theorem Xek : BS Tryz.prog 52 (fun i => [(0, 1), (1, 1), (2, 35), (37, 1), (38, 1), (39, 1), (40, 16)][i]?) [.int .u8 0, .int .i64 0, .slice none 0 0, .int .u64 0, .slice none 0 0, .int .u8 0, .int .u8 0, .int .u8 0, .int .u8 0, .int .u8 0, .int .u8 0, .int .u8 0, .int .u8 0, .int .u8 0, .int .u8 0, .int .u8 0, .int .u8 0, .int .u8 0, .int .u8 0, .int .u8 0, .int .u8 0, .int .u8 0, .int .u8 0, .int .u8 0, .int .u8 0, .int .u8 0, .int .u8 0, .int .u8 0, .int .u8 0, .int .u8 0, .int .u8 0, .int .u8 0, .int .u8 0, .int .u8 0, .int .u8 0, .int .u8 0, .int .u8 0, .int .u8 0, .int .u64 0, .slice none 0 0, .int .u8 0, .int .u8 0, .int .u8 0, .int .u8 0, .int .u8 0, .int .u8 0, .int .u8 0, .int .u8 0, .int .u8 0, .int .u8 0, .int .u8 0, .int .u8 0, .int .u8 0, .int .u8 0, .int .u8 0, .int .u8 0] := Qr5 Tryz.underlying52 Qm4 ⟨rfl, (Qcu).siz, rfl, (Qaw).siz, rfl, (Qcs).siz, rfl, (Qcu).siz, rfl, (Qb5).siz, rfl, (Qmm).siz, rfl, (Qak).siz, trivial⟩
theorem Qcr : Agg Tryz.prog 52 56 := fun _ => ⟨by kernel_rfl, by kernel_rfl⟩
theorem Xre : ZV Tryz.prog 223 (.agg [.slice none 0 0].toArray) := fun _ => by kernel_rfl
theorem Xt1 : BS Tryz.prog 223 (fun i => [(0, 1)][i]?) [.slice none 0 0] := Qr5 Tryz.underlying223 Xre ⟨rfl, (Qmm).siz, trivial⟩
theorem Qyh : FA Tryz.prog 52 0 0 := fun _ _ _ => by kernel_rfl
theorem Qqp : FA Tryz.prog 223 0 0 := fun _ _ _ => by kernel_rfl
theorem Qjx : CV Tryz.prog 24 5 .u8 := fun _ _ _ => by kernel_rfl
theorem Xqj : ZV Tryz.prog 5 (.int .u8 0) := fun _ => by kernel_rfl
theorem Xdn : BSl Tryz.prog 50 1 5 1 [.int .u8 0] := Qr9 Tryz.underlying50 (Qcu).siz Xqj rfl rfl (by kernel_rfl)
theorem Qxb : ApT Tryz.prog 50 5 1 1 := Qug Tryz.underlying50 rfl (by kernel_rfl)
theorem Qpj : En Tryz.prog 166 := fun _ _ => by kernel_rfl
theorem Qy3 : FA Tryz.prog 52 3 37 := fun _ _ _ => by kernel_rfl
theorem Xc1 : FA Tryz.prog 52 4 38 := fun _ _ _ => by kernel_rfl
theorem Qrp : FA Tryz.prog 52 5 39 := fun _ _ _ => by kernel_rfl
theorem Qqo : FA Tryz.prog 52 1 1 := fun _ _ _ => by kernel_rfl
theorem Qmf : FA Tryz.prog 52 2 2 := fun _ _ _ => by kernel_rfl
theorem Xgc : En Tryz.prog 167 := fun _ _ => by kernel_rfl
theorem Xq0 : En Tryz.prog 165 := fun _ _ => by kernel_rfl
theorem Xqz : En Tryz.prog 164 := fun _ _ => by kernel_rfl
theorem Xs7 : En Tryz.prog 163 := fun _ _ => by kernel_rfl
theorem Xf1 : En Tryz.prog 78 := fun _ _ => by kernel_rfl
theorem Qzi : En Tryz.prog 77 := fun _ _ => by kernel_rfl
theorem Xt5 : En Tryz.prog 74 := fun _ _ => by kernel_rfl
theorem Qye : FA Tryz.prog 52 6 40 := fun _ _ _ => by kernel_rfl
theorem Xro : En Tryz.prog 44 := fun _ _ => by kernel_rfl
theorem Xjq : En Tryz.prog 17 := fun _ _ => by kernel_rfl
theorem Xpm : CV Tryz.prog 3 5 .u8 := fun _ _ _ => by kernel_rfl
theorem Xao : BS Tryz.prog 233 (fun i => [(0, 1), (1, 1)][i]?) [.int .u64 0, .int .u64 0] := Qr5 Tryz.underlying233 Qph ⟨rfl, (Qb5).siz, rfl, (Qb5).siz, trivial⟩
theorem Xb2 : En Tryz.prog 178 := fun _ _ => by kernel_rfl
theorem Xmz : En Tryz.prog 97 := fun _ _ => by kernel_rfl
theorem Xse : En Tryz.prog 76 := fun _ _ => by kernel_rfl
theorem Qp5 : ZV Tryz.prog 78 (.agg [.int .i64 0, .slice none 0 0, .int .u64 0, .int .u64 0, .int .i64 0, .bool false, .int .i64 0, .int .u8 0, .int .u8 0, .int .u8 0, .int .u8 0, .int .u8 0, .int .u8 0, .int .u8 0, .int .u8 0, .int .u8 0, .int .u8 0, .int .u8 0, .int .u8 0, .int .u8 0, .int .u8 0, .int .u8 0, .int .u8 0, .bool false, .int .i64 0, .int .u8 0, .int .u8 0, .int .u8 0, .int .u8 0, .int .u8 0, .int .u8 0, .int .u8 0, .int .u8 0, .int .u8 0, .int .u8 0, .int .u8 0, .int .u8 0, .int .u8 0, .int .u8 0, .int .u8 0, .int .u8 0].toArray) := fun _ => by kernel_rfl
theorem Xtu : En Tryz.prog 19 := fun _ _ => by kernel_rfl
theorem Xsa : En Tryz.prog 81 := fun _ _ => by kernel_rfl
theorem Xm5 : Agg Tryz.prog 76 36 := fun _ => ⟨by kernel_rfl, by kernel_rfl⟩
theorem Xew : BS Tryz.prog 78 (fun i => [(0, 4), (4, 1), (5, 36)][i]?) [.int .i64 0, .slice none 0 0, .int .u64 0, .int .u64 0, .int .i64 0, .bool false, .int .i64 0, .int .u8 0, .int .u8 0, .int .u8 0, .int .u8 0, .int .u8 0, .int .u8 0, .int .u8 0, .int .u8 0, .int .u8 0, .int .u8 0, .int .u8 0, .int .u8 0, .int .u8 0, .int .u8 0, .int .u8 0, .int .u8 0, .bool false, .int .i64 0, .int .u8 0, .int .u8 0, .int .u8 0, .int .u8 0, .int .u8 0, .int .u8 0, .int .u8 0, .int .u8 0, .int .u8 0, .int .u8 0, .int .u8 0, .int .u8 0, .int .u8 0, .int .u8 0, .int .u8 0, .int .u8 0] := Qr5 Tryz.underlying78 Qp5 ⟨rfl, (Qeg).siz, rfl, (Qaw).siz, rfl, (Xm5).siz, trivial⟩
theorem Qdv : Agg Tryz.prog 78 41 := fun _ => ⟨by kernel_rfl, by kernel_rfl⟩
theorem Xd9 : FA Tryz.prog 122 1 1 := fun _ _ _ => by kernel_rfl
theorem Xs2 : En Tryz.prog 137 := fun _ _ => by kernel_rfl
theorem Xpf : En Tryz.prog 140 := fun _ _ => by kernel_rfl
theorem Xqh : En Tryz.prog 13 := fun _ _ => by kernel_rfl
theorem Qhf {p0 r} (hm : Qg8 p0 = some r) {w : World} :
    Calls Tryz.prog 56 [.agg (Qfr.cs p0).toArray].toArray w fun e w' => ∃ v, e = .returned v ∧ (v = .int .i64 r ∧ Gr w w') := by
 unfold Qg8 at hm
 refine Qa5 78 Tryz.func56 rfl rfl rfl<|qs 2 rfl<|qe rfl (Qaq (cs := Qfr.cs p0) rfl rfl) ?_
 rintro _ w1 ⟨b1, rfl, h, c, G1⟩
 refine qm rfl<|Qa1<|Qa3 ?_
 have X3 := ((Gr.refl w).trans G1)
 refine qj (β := Bool) (rg 4 31) (fun a1 => [(34, .bool a1)]) (fun a1 wr => (Qdw p0 a1 = some r) ∧ Kz [] w1 wr) ?_ ?_
 · refine qg 31 rfl<|qv rfl (Qa0 Qiu rfl)<|qv rfl (Qa2 (v := .int .i64 p0.Word) Qaw rfl c rfl)<|qv rfl (Qcd (a := p0.Word) (b := 1) rfl rfl)<|qp rfl (Qac rfl) (fun c7 => ?_) (fun c7 => ?_)
   · replace hm := iT c7 hm
     refine qk rfl<|qk rfl<|qk rfl<|qm rfl<|qm rfl<|qk rfl<|qk rfl ?_
     refine qk rfl<|qk rfl<|qk rfl<|qm rfl<|qm rfl<|qk rfl<|qk rfl ?_
     refine qk rfl<|qk rfl<|qk rfl<|qk rfl<|qm rfl<|qm rfl<|qk rfl ?_
     refine qk rfl<|qk rfl<|qk rfl<|qk rfl<|qk rfl<|qm rfl<|Qa9 ?_
     exact ⟨rfl, true, sbq, hm, kz0⟩
   replace hm := iF c7 hm
   refine qv rfl (Qa0 Qiu rfl)<|qv rfl (Qa2 (v := .int .i64 p0.Word) Qaw rfl c rfl)<|qv rfl (Qey (a := p0.Word) (b := 1000) rfl rfl)<|qm rfl<|qp rfl (Qac rfl) (fun c8 => ?_) (fun c8 => ?_)
   · replace hm := iT c8 hm
     refine qk rfl<|qk rfl<|qk rfl<|qk rfl<|qk rfl<|qm rfl<|qm rfl ?_
     refine qk rfl<|qk rfl<|qk rfl<|qk rfl<|qk rfl<|qk rfl<|qm rfl ?_
     refine qm rfl<|qk rfl<|qk rfl<|qk rfl<|qk rfl<|qk rfl<|qk rfl ?_
     refine qm rfl<|Qa9 ?_
     exact ⟨rfl, true, sbq, hm, kz0⟩
   replace hm := iF c8 hm
   refine qv rfl (Qa0 Qje rfl)<|qv rfl (Qa2 (v := .int .i64 p0.Epoch) Qaw rfl c rfl)<|qv rfl (Qa0 Qiu rfl)<|qv rfl (Qa2 (v := .int .i64 p0.Word) Qaw rfl c rfl)<|qv rfl (Qcd (a := p0.Epoch) (b := p0.Word) rfl rfl)<|qm rfl<|qp rfl (Qac rfl) (fun c9 => ?_) (fun c9 => ?_)
   · replace hm := iT c9 hm
     refine qk rfl<|qk rfl<|qk rfl<|qk rfl<|qk rfl<|qk rfl<|qm rfl ?_
     refine qm rfl<|qk rfl<|qk rfl<|qk rfl<|qk rfl<|qk rfl<|qk rfl ?_
     refine qm rfl<|Qa9 ?_
     exact ⟨rfl, true, sbq, hm, kz0⟩
   replace hm := iF c9 hm
   refine qv rfl (Qa0 Qje rfl)<|qv rfl (Qa2 (v := .int .i64 p0.Epoch) Qaw rfl c rfl)<|qv rfl (Qa0 Qiu rfl)<|qv rfl (Qa2 (v := .int .i64 p0.Word) Qaw rfl c rfl)<|qv rfl (Qjl (k := .i64) (a := 1000) (b := p0.Word) rfl rfl)<|qv rfl (Qey (a := p0.Epoch) (b := w64 (1000 * p0.Word)) rfl rfl)<|qm rfl ?_
   refine qp rfl (Qac rfl) (fun d => ?_) (fun d => ?_)
   · replace hm := iT d hm
     refine qk rfl<|qk rfl<|qk rfl<|qk rfl<|qk rfl<|qk rfl<|qm rfl ?_
     refine Qa9 ?_
     exact ⟨rfl, true, sbq, hm, kz0⟩
   replace hm := iF d hm
   refine qv rfl (Qa0 Qje rfl)<|qv rfl (Qa2 (v := .int .i64 p0.Epoch) Qaw rfl c rfl)<|qv rfl (Qa0 Qiu rfl)<|qv rfl (Qa2 (v := .int .i64 p0.Word) Qaw rfl c rfl) ?_
   obtain ⟨x3, f, hm⟩ := bnd hm
   refine qv rfl (Qjv (a := p0.Epoch) (b := p0.Word) rfl rfl f)<|qv rfl (Qc2 (a := x3) (b := 0) rfl rfl)<|qm rfl<|Qa9 ?_
   exact ⟨rfl, (decide (x3 ≠ 0)), sbq, hm, kz0⟩
 clear hm; rintro a1 w2 ⟨hm, K2⟩
 unfold Qdw at hm
 refine Qam rfl (fun c1 => ?_) (fun c1 => ?_)
 · replace hm := Qc8 c1 hm
   refine qs 1 rfl<|qm rfl<|qb ?_
   have X5 := (X3.kz K2)
   cases hm
   refine ⟨_, _, rfl, Qb1 rfl (Qab rfl), ?_⟩
   exact ⟨rfl, X5⟩
 replace hm := Qc7 c1 hm
 refine qu<|qs 4 rfl<|qv rfl (Qa0 Qiu rfl) ?_
 have B6 := (c.kz K2)
 refine qv rfl (Qa2 (v := .int .i64 p0.Word) Qaw rfl B6 rfl)<|qv rfl (Qjl (k := .i64) (a := 3) (b := p0.Word) rfl rfl)<|qm rfl<|Qa1<|Qa3 ?_
 have X7 := (X3.kz K2)
 refine qj (β := Bool) (rg 38 40) (fun a2 => [(77, .bool a2)]) (fun a2 wr => (Qdy a2 = some r) ∧ Kz [] w2 wr) ?_ ?_
 · refine qg 40 rfl<|qv rfl (Qa0 Qrw rfl)<|qv rfl (Qa2 (v := .int .i64 p0.Early) Qaw rfl B6 rfl)<|qv rfl (Qa0 Qll rfl)<|qv rfl (Qa2 (v := .int .i64 p0.Drift) Qaw rfl B6 rfl)<|qv rfl (Qa0 Qp9 rfl)<|qv rfl (Qa2 (v := .int .i64 p0.Delay) Qaw rfl B6 rfl) ?_
   refine qv rfl (Xjz rfl rfl rfl)<|qv rfl (Qcd (a := mnI (mnI p0.Early p0.Drift) p0.Delay) (b := 0) rfl rfl)<|qp rfl (Qac rfl) (fun c3 => ?_) (fun c3 => ?_)
   · replace hm := iT c3 hm
     refine qk rfl<|qk rfl<|qk rfl<|qk rfl<|qm rfl<|qm rfl<|qk rfl ?_
     refine qk rfl<|qk rfl<|qk rfl<|qm rfl<|qm rfl<|qk rfl<|qk rfl ?_
     refine qk rfl<|qk rfl<|qk rfl<|qk rfl<|qk rfl<|qk rfl<|qm rfl ?_
     refine qm rfl<|qk rfl<|qk rfl<|qk rfl<|qk rfl<|qk rfl<|qk rfl ?_
     refine qk rfl<|qk rfl<|qm rfl<|Qa9 ?_
     exact ⟨rfl, true, sbq, hm, kz0⟩
   replace hm := iF c3 hm
   refine qv rfl (Qa0 Qll rfl)<|qv rfl (Qa2 (v := .int .i64 p0.Drift) Qaw rfl B6 rfl)<|qm rfl<|qv rfl (Qee (a := p0.Drift) (b := w64 (3 * p0.Word)) rfl rfl)<|qm rfl<|qp rfl (Qac rfl) (fun c4 => ?_) (fun c4 => ?_)
   · replace hm := iT c4 hm
     refine qk rfl<|qk rfl<|qk rfl<|qk rfl<|qm rfl<|qm rfl<|qk rfl ?_
     refine qk rfl<|qk rfl<|qk rfl<|qk rfl<|qk rfl<|qk rfl<|qk rfl ?_
     refine qm rfl<|qm rfl<|qk rfl<|qk rfl<|qk rfl<|qk rfl<|qk rfl ?_
     refine qk rfl<|qk rfl<|qk rfl<|qm rfl<|Qa9 ?_
     exact ⟨rfl, true, sbq, hm, kz0⟩
   replace hm := iF c4 hm
   refine qv rfl (Qa0 Qp9 rfl)<|qv rfl (Qa2 (v := .int .i64 p0.Delay) Qaw rfl B6 rfl)<|qm rfl<|qv rfl (Qee (a := p0.Delay) (b := w64 (3 * p0.Word)) rfl rfl)<|qm rfl<|qp rfl (Qac rfl) (fun c5 => ?_) (fun c5 => ?_)
   · replace hm := iT c5 hm
     refine qk rfl<|qk rfl<|qk rfl<|qk rfl<|qk rfl<|qk rfl<|qk rfl ?_
     refine qk rfl<|qm rfl<|qm rfl<|qk rfl<|qk rfl<|qk rfl<|qk rfl ?_
     refine qk rfl<|qk rfl<|qk rfl<|qk rfl<|qm rfl<|Qa9 ?_
     exact ⟨rfl, true, sbq, hm, kz0⟩
   replace hm := iF c5 hm
   refine qv rfl (Qa0 Qll rfl)<|qv rfl (Qa2 (v := .int .i64 p0.Drift) Qaw rfl B6 rfl)<|qv rfl (Qjl (k := .i64) (a := 2) (b := p0.Drift) rfl rfl)<|qv rfl (Qa0 Qp9 rfl)<|qv rfl (Qa2 (v := .int .i64 p0.Delay) Qaw rfl B6 rfl)<|qv rfl (Qce (k := .i64) (a := w64 (2 * p0.Drift)) (b := p0.Delay) rfl rfl)<|qm rfl ?_
   refine qv rfl (Qee (a := w64 ((w64 (2 * p0.Drift)) + p0.Delay)) (b := w64 (3 * p0.Word)) rfl rfl)<|qm rfl<|qp rfl (Qac rfl) (fun c6 => ?_) (fun c6 => ?_)
   · replace hm := iT c6 hm
     refine qk rfl<|qk rfl<|qk rfl<|qk rfl<|qk rfl<|qk rfl<|qk rfl ?_
     refine qk rfl<|qm rfl<|Qa9 ?_
     exact ⟨rfl, true, sbq, hm, kz0⟩
   replace hm := iF c6 hm
   refine qv rfl (Qa0 Qrw rfl)<|qv rfl (Qa2 (v := .int .i64 p0.Early) Qaw rfl B6 rfl)<|qv rfl (Qa0 Qje rfl)<|qv rfl (Qa2 (v := .int .i64 p0.Epoch) Qaw rfl B6 rfl)<|qv rfl (Qa0 Qp9 rfl)<|qv rfl (Qa2 (v := .int .i64 p0.Delay) Qaw rfl B6 rfl)<|qv rfl (Qi7 (k := .i64) (a := p0.Epoch) (b := p0.Delay) rfl rfl) ?_
   refine qv rfl (Qey (a := p0.Early) (b := w64 (p0.Epoch - p0.Delay)) rfl rfl)<|qm rfl<|Qa9 ?_
   exact ⟨rfl, (decide (w64 (p0.Epoch - p0.Delay) < p0.Early)), sbq, hm, kz0⟩
 clear hm; rintro a2 w3 ⟨hm, K3⟩
 unfold Qdy at hm
 refine Qam rfl (fun c2 => ?_) (fun c2 => ?_)
 · replace hm := Qc8 c2 hm
   refine qs 1 rfl<|qm rfl<|qb ?_
   have X9 := (X7.kz K3)
   cases hm
   refine ⟨_, _, rfl, Qb1 rfl (Qab rfl), ?_⟩
   exact ⟨rfl, X9⟩
 replace hm := Qc7 c2 hm
 refine qu<|qs 1 rfl<|qm rfl<|Qa1<|Qag ?_
 have g := (X7.kz K3)
 cases hm
 refine ⟨_, _, rfl, Qb1 rfl (Qab rfl), ?_⟩
 exact ⟨rfl, g⟩
theorem Qf3 {p0 r} (hm : Qdg p0 = some r) {w : World} :
    Calls Tryz.prog 67 [.int .i64 p0].toArray w fun e w' => ∃ v, e = .returned v ∧ (v = .bool r ∧ Gr w w') := by
 unfold Qdg at hm
 refine Qa5 9 Tryz.func67 rfl rfl rfl<|qs 1 rfl<|qm rfl<|qd 7 rfl ?_
 refine qm rfl<|qv rfl (Qee (a := p0) (b := 0) rfl rfl)<|qp rfl (Qac rfl) (fun c1 => ?_) (fun c1 => ?_)
 · replace hm := iT c1 hm
   refine qm rfl<|qv rfl (Qo8 (a := p0) (b := 1099511627776) rfl rfl)<|qm rfl<|qm rfl<|Qa1<|Qag ?_
   cases hm
   refine ⟨_, _, rfl, Qb1 rfl (Qab rfl), ?_⟩
   exact ⟨rfl, (Gr.refl w)⟩
 replace hm := iF c1 hm
 refine qk rfl<|qk rfl<|qm rfl<|qm rfl<|Qa1<|Qag ?_
 cases hm
 refine ⟨_, _, rfl, Qb1 rfl (Qab rfl), ?_⟩
 exact ⟨rfl, (Gr.refl w)⟩
theorem Qts {p0 r} (hm : Qmy p0 = some r) {w : World} :
    Calls Tryz.prog 173 [.agg (Qfr.cs p0).toArray].toArray w fun e w' => ∃ v, e = .returned v ∧ (v = .int .i64 r ∧ Gr w w') := by
 unfold Qmy at hm
 refine Qa5 5 Tryz.func173 rfl rfl rfl<|qs 2 rfl<|qe rfl (Qaq (cs := Qfr.cs p0) rfl rfl) ?_
 rintro _ w1 ⟨b1, rfl, b, a, G1⟩
 refine qm rfl<|qd 3 rfl<|qv rfl (Qa0 Qje rfl)<|qv rfl (Qa2 (v := .int .i64 p0.Epoch) Qaw rfl a rfl)<|qm rfl ?_
 refine Qa1<|Qag ?_
 have X3 := ((Gr.refl w).trans G1)
 cases hm
 refine ⟨_, _, rfl, Qb1 rfl (Qab rfl), ?_⟩
 exact ⟨rfl, X3⟩
theorem Qkp {p0 p1 r} (hm : Qep p0 p1 = some r) {w : World} :
    Calls Tryz.prog 91 [.agg (Qfr.cs p0).toArray, .int .i64 p1, .func (.func 173) [].toArray [].toArray].toArray w fun e w' => ∃ v, e = .returned v ∧ (v = .tuple [.int .i64 r.1, .int .i64 r.2].toArray ∧ Gr w w') := by
 unfold Qep at hm
 refine Qa5 22 Tryz.func91 rfl rfl rfl<|qs 3 rfl<|qe rfl (Qaq (cs := Qfr.cs p0) rfl rfl) ?_
 rintro _ w1 ⟨b1, rfl, i, c, G1⟩
 refine qm rfl<|qm rfl<|Qa1<|Qa3<|qs 3 rfl<|qv rfl (Qa4 Qht rfl c rfl) ?_
 obtain ⟨x1, d, hm⟩ := bnd hm
 refine qe rfl (eC Xgv rfl (Qhf d)) ?_
 rintro _ w2 ⟨rfl, G2⟩
 refine qm rfl<|qd 2 rfl<|qm rfl<|qv rfl (Qc2 (a := x1) (b := 0) rfl rfl)<|Qa1 ?_
 refine Qam rfl (fun c1 => ?_) (fun c1 => ?_)
 · replace hm := iT c1 hm
   refine qs 3 rfl<|qm rfl<|qm rfl<|qm rfl<|Qa1<|Qag ?_
   refine Qb2 ?_
   have X4 := (((Gr.refl w).trans G1).trans G2)
   cases hm
   refine ⟨_, _, rfl, Qbk rfl (Qab rfl) (Qab rfl), ?_⟩
   exact ⟨rfl, X4⟩
 replace hm := iF c1 hm
 refine qu<|Qa3<|qs 3 rfl<|qm rfl ?_
 obtain ⟨x2, f, hm⟩ := bnd hm
 refine qe rfl (eC Xb4 rfl (Qf3 f)) ?_
 rintro _ w3 ⟨rfl, G3⟩
 refine qv rfl (Qci rfl)<|Qa1<|Qam rfl (fun c2 => ?_) (fun c2 => ?_)
 · replace hm := Qc8 c2 hm
   refine qs 2 rfl<|qm rfl<|qm rfl<|Qa1<|Qag<|Qb2 ?_
   have X6 := ((((Gr.refl w).trans G1).trans G2).trans G3)
   cases hm
   refine ⟨_, _, rfl, Qbk rfl (Qab rfl) (Qab rfl), ?_⟩
   exact ⟨rfl, X6⟩
 replace hm := Qc7 c2 hm
 refine qu<|qs 7 rfl<|qm rfl<|qm rfl ?_
 have B7 := ((c.gr G2).gr G3)
 refine qv rfl (Qa4 Qht rfl B7 rfl) ?_
 obtain ⟨x3, g, hm⟩ := bnd hm
 refine qe rfl (Qcy Xry rfl rfl (Qts g)) ?_
 rintro _ w4 ⟨rfl, G4⟩
 obtain ⟨x4, h, hm⟩ := bnd hm
 refine qv rfl (Qo6 (a := p1) (b := x3) rfl rfl h)<|qm rfl<|qm rfl<|Qa1<|Qag ?_
 have X9 := (((((Gr.refl w).trans G1).trans G2).trans G3).trans G4)
 cases hm
 refine ⟨_, _, rfl, Qbk rfl (Qab rfl) (Qab rfl), ?_⟩
 exact ⟨rfl, X9⟩
theorem Qqe {p0 p1 r} (hm : Qm6 p0 p1 = some r) {w : World} :
    Calls Tryz.prog 90 [.agg (Qfr.cs p0).toArray, .int .i64 p1].toArray w fun e w' => ∃ v, e = .returned v ∧ (v = .tuple [.int .i64 r.1, .int .i64 r.2].toArray ∧ Gr w w') := by
 unfold Qm6 at hm
 refine Qa5 11 Tryz.func90 rfl rfl rfl<|qs 3 rfl<|qe rfl (Qaq (cs := Qfr.cs p0) rfl rfl) ?_
 rintro _ w1 ⟨b1, rfl, c, a, G1⟩
 refine qm rfl<|qm rfl<|qd 7 rfl<|qv rfl (Qa4 Qht rfl a rfl)<|qm rfl ?_
 obtain ⟨x1, b, hm⟩ := bnd hm
 refine qe rfl (eC Xsj rfl (Qkp b)) ?_
 rintro _ w2 ⟨rfl, G2⟩
 refine qm rfl<|qm rfl<|qm rfl<|qm rfl<|Qa1<|Qag ?_
 have X4 := (((Gr.refl w).trans G1).trans G2)
 cases hm
 refine ⟨_, _, rfl, Qbk rfl (Qab rfl) (Qab rfl), ?_⟩
 exact ⟨rfl, X4⟩
theorem Qsf {p0 r} (hm : Qlm p0 = some r) {w : World} :
    Calls Tryz.prog 92 [.agg (Qfr.cs p0).toArray].toArray w fun e w' => ∃ v, e = .returned v ∧ (v = .int .i64 r ∧ Gr w w') := by
 unfold Qlm at hm
 refine Qa5 5 Tryz.func92 rfl rfl rfl<|qs 2 rfl<|qe rfl (Qaq (cs := Qfr.cs p0) rfl rfl) ?_
 rintro _ w1 ⟨b1, rfl, b, a, G1⟩
 refine qm rfl<|qd 3 rfl<|qv rfl (Qa0 Qiu rfl)<|qv rfl (Qa2 (v := .int .i64 p0.Word) Qaw rfl a rfl)<|qm rfl ?_
 refine Qa1<|Qag ?_
 have X3 := ((Gr.refl w).trans G1)
 cases hm
 refine ⟨_, _, rfl, Qb1 rfl (Qab rfl), ?_⟩
 exact ⟨rfl, X3⟩
theorem Qkd {p0 p1 r} (hm : Qea p0 p1 = some r) {w : World} :
    Calls Tryz.prog 91 [.agg (Qfr.cs p0).toArray, .int .i64 p1, .func (.func 92) [].toArray [].toArray].toArray w fun e w' => ∃ v, e = .returned v ∧ (v = .tuple [.int .i64 r.1, .int .i64 r.2].toArray ∧ Gr w w') := by
 unfold Qea at hm
 refine Qa5 22 Tryz.func91 rfl rfl rfl<|qs 3 rfl<|qe rfl (Qaq (cs := Qfr.cs p0) rfl rfl) ?_
 rintro _ w1 ⟨b1, rfl, i, c, G1⟩
 refine qm rfl<|qm rfl<|Qa1<|Qa3<|qs 3 rfl<|qv rfl (Qa4 Qht rfl c rfl) ?_
 obtain ⟨x1, d, hm⟩ := bnd hm
 refine qe rfl (eC Xgv rfl (Qhf d)) ?_
 rintro _ w2 ⟨rfl, G2⟩
 refine qm rfl<|qd 2 rfl<|qm rfl<|qv rfl (Qc2 (a := x1) (b := 0) rfl rfl)<|Qa1 ?_
 refine Qam rfl (fun c1 => ?_) (fun c1 => ?_)
 · replace hm := iT c1 hm
   refine qs 3 rfl<|qm rfl<|qm rfl<|qm rfl<|Qa1<|Qag ?_
   refine Qb2 ?_
   have X4 := (((Gr.refl w).trans G1).trans G2)
   cases hm
   refine ⟨_, _, rfl, Qbk rfl (Qab rfl) (Qab rfl), ?_⟩
   exact ⟨rfl, X4⟩
 replace hm := iF c1 hm
 refine qu<|Qa3<|qs 3 rfl<|qm rfl ?_
 obtain ⟨x2, f, hm⟩ := bnd hm
 refine qe rfl (eC Xb4 rfl (Qf3 f)) ?_
 rintro _ w3 ⟨rfl, G3⟩
 refine qv rfl (Qci rfl)<|Qa1<|Qam rfl (fun c2 => ?_) (fun c2 => ?_)
 · replace hm := Qc8 c2 hm
   refine qs 2 rfl<|qm rfl<|qm rfl<|Qa1<|Qag<|Qb2 ?_
   have X6 := ((((Gr.refl w).trans G1).trans G2).trans G3)
   cases hm
   refine ⟨_, _, rfl, Qbk rfl (Qab rfl) (Qab rfl), ?_⟩
   exact ⟨rfl, X6⟩
 replace hm := Qc7 c2 hm
 refine qu<|qs 7 rfl<|qm rfl<|qm rfl ?_
 have B7 := ((c.gr G2).gr G3)
 refine qv rfl (Qa4 Qht rfl B7 rfl) ?_
 obtain ⟨x3, g, hm⟩ := bnd hm
 refine qe rfl (Qcy Xu6 rfl rfl (Qsf g)) ?_
 rintro _ w4 ⟨rfl, G4⟩
 obtain ⟨x4, h, hm⟩ := bnd hm
 refine qv rfl (Qo6 (a := p1) (b := x3) rfl rfl h)<|qm rfl<|qm rfl<|Qa1<|Qag ?_
 have X9 := (((((Gr.refl w).trans G1).trans G2).trans G3).trans G4)
 cases hm
 refine ⟨_, _, rfl, Qbk rfl (Qab rfl) (Qab rfl), ?_⟩
 exact ⟨rfl, X9⟩
theorem Qps {p0 p1 r} (hm : Ql1 p0 p1 = some r) {w : World} :
    Calls Tryz.prog 44 [.agg (Qfr.cs p0).toArray, .int .i64 p1].toArray w fun e w' => ∃ v, e = .returned v ∧ (v = .tuple [.int .i64 r.1, .int .i64 r.2].toArray ∧ Gr w w') := by
 unfold Ql1 at hm
 refine Qa5 11 Tryz.func44 rfl rfl rfl<|qs 3 rfl<|qe rfl (Qaq (cs := Qfr.cs p0) rfl rfl) ?_
 rintro _ w1 ⟨b1, rfl, c, a, G1⟩
 refine qm rfl<|qm rfl<|qd 7 rfl<|qv rfl (Qa4 Qht rfl a rfl)<|qm rfl ?_
 obtain ⟨x1, b, hm⟩ := bnd hm
 refine qe rfl (eC Xsj rfl (Qkd b)) ?_
 rintro _ w2 ⟨rfl, G2⟩
 refine qm rfl<|qm rfl<|qm rfl<|qm rfl<|Qa1<|Qag ?_
 have X4 := (((Gr.refl w).trans G1).trans G2)
 cases hm
 refine ⟨_, _, rfl, Qbk rfl (Qab rfl) (Qab rfl), ?_⟩
 exact ⟨rfl, X4⟩
theorem Xbu {p0 p1 r} (hm : Qvi p0 p1 = some r) {w : World} :
    Calls Tryz.prog 46 [.agg (Qfr.cs p0).toArray, .int .i64 p1].toArray w fun e w' => ∃ v, e = .returned v ∧ (∃ ur0_s zr0_s gr0_s, v = .tuple [ur0_s, .int .i64 r.2].toArray ∧ Own w' zr0_s gr0_s 3 1 ur0_s (r.1.map ic) ∧ Hdn (zr0_s = 0 ∨ w.heap.size ≤ gr0_s) ∧ Gr w w') := by
 unfold Qvi at hm
 refine Qa5 36 Tryz.func46 rfl rfl rfl<|qs 3 rfl<|qe rfl (Qaq (cs := Qfr.cs p0) rfl rfl) ?_
 rintro _ w1 ⟨b1, rfl, C, d, G1⟩
 have F := d.lt
 refine qm rfl<|qm rfl<|qd 8 rfl<|qv rfl (Qa4 Qht rfl d rfl)<|qm rfl ?_
 obtain ⟨x1, h, hm⟩ := bnd hm
 refine qe rfl (eC Xpw rfl (Qqe h)) ?_
 rintro _ w2 ⟨rfl, G2⟩
 have z3 := G2.size
 refine qm rfl<|qm rfl<|qm rfl<|qm rfl<|qm rfl<|Qa1<|Qa3 ?_
 refine qs 2 rfl<|qm rfl<|qv rfl (Qc2 (a := x1.2) (b := 0) rfl rfl)<|Qa1<|Qam rfl (fun c1 => ?_) (fun c1 => ?_)
 · replace hm := iT c1 hm
   refine qs 3 rfl<|qm rfl<|qm rfl<|qm rfl<|Qa1<|Qag ?_
   refine Qb2 ?_
   have X4 := (((Gr.refl w).trans G1).trans G2)
   cases hm
   refine ⟨_, _, rfl, Qbk rfl (Qab rfl) (Qab rfl), ?_⟩
   exact ⟨(.slice none 0 0), 0, 0, rfl, (Qax _ 0 3 1), ⟨.inl rfl⟩, X4⟩
 replace hm := iF c1 hm
 refine qu<|qs 3 rfl<|qm rfl<|qe rfl (Qdk [x1.1] ic Qpf rfl rfl (Qjr rfl) rfl rfl rfl) ?_
 rintro i w3 ⟨f, D, g, G3⟩
 have z5 := G3.size
 refine qm rfl<|Qa1<|Qa3<|qs 10 rfl<|qm rfl<|qm rfl ?_
 refine qv rfl (Qce (k := .i64) (a := x1.1) (b := 1) rfl rfl)<|qv rfl (Qa0 Qje rfl) ?_
 have B7 := ((d.gr G2).gr G3)
 refine qv rfl (Qa2 (v := .int .i64 p0.Epoch) Qaw rfl B7 rfl)<|qv rfl (Qjl (k := .i64) (a := w64 (x1.1 + 1)) (b := p0.Epoch) rfl rfl)<|qv rfl (Qa0 Qrw rfl)<|qv rfl (Qa2 (v := .int .i64 p0.Early) Qaw rfl B7 rfl)<|qv rfl (Qi7 (k := .i64) (a := w64 ((w64 (x1.1 + 1)) * p0.Epoch)) (b := p0.Early) rfl rfl)<|qv rfl (Qee (a := p1) (b := w64 ((w64 ((w64 (x1.1 + 1)) * p0.Epoch)) - p0.Early)) rfl rfl)<|Qa1 ?_
 refine cnF rfl (fun c2 => ?_) (fun c2 => ?_)
 · replace hm := iF c2 hm
   refine qu<|qs 3 rfl<|qm rfl<|qm rfl<|qm rfl ?_
   refine Qa1<|Qag ?_
   have j := ((((Gr.refl w).trans G1).trans G2).trans G3)
   cases hm
   refine ⟨_, _, rfl, Qbk rfl (Qab rfl) (Qab rfl), ?_⟩
   exact ⟨i, 1, f, rfl, g, ⟨(.inr tk0)⟩, j⟩
 replace hm := iT c2 hm
 refine qg 6 rfl<|qm rfl<|qm rfl<|qv rfl (Qce (k := .i64) (a := x1.1) (b := 1) rfl rfl)<|qe rfl (Qdk [w64 (x1.1 + 1)] ic Qpf rfl rfl (Qjr rfl) rfl rfl rfl) ?_
 rintro G w4 ⟨H, E, n, G4⟩
 have z8 := G4.size
 have o := (g.gr G4)
 obtain ⟨l2, p, hm⟩ := bnd hm
 refine qe rfl (Qk1 (l := [x1.1]) (m := [w64 (x1.1 + 1)]) (c := ic) Xpi rfl rfl o (Own.rd n) p (by decide)) ?_
 rintro q w5 ⟨s, t, u, y, I, z⟩
 refine qm rfl<|qd 3 rfl<|qm rfl<|qm rfl<|qm rfl ?_
 refine Qa1<|Qag ?_
 have B := ((((((Gr.refl w).trans G1).trans G2).trans G3).trans G4).ka y (tk1 ((.inr tk0) : 1 = 0 ∨ w.heap.size ≤ f)))
 cases hm
 refine ⟨_, _, rfl, Qbk rfl (Qab rfl) (Qab rfl), ?_⟩
 exact ⟨q, s, t, rfl, u, ⟨(Qmj (A := (fun x => w.heap.size ≤ x)) z (.inr tk0))⟩, B⟩
theorem Qql {p0 r} (hm : Qlz p0 = some r) {w : World} :
    Calls Tryz.prog 93 [.int .i64 p0].toArray w fun e w' => ∃ v, e = .returned v ∧ (v = .bool r ∧ Gr w w') := by
 unfold Qlz at hm
 refine Qa5 9 Tryz.func93 rfl rfl rfl<|qs 1 rfl<|qm rfl<|qd 7 rfl ?_
 refine qm rfl<|qv rfl (Qee (a := p0) (b := (-1099511627776)) rfl rfl)<|qp rfl (Qac rfl) (fun c1 => ?_) (fun c1 => ?_)
 · replace hm := iT c1 hm
   refine qm rfl<|qv rfl (Qo8 (a := p0) (b := 2199023255552) rfl rfl)<|qm rfl<|qm rfl<|Qa1<|Qag ?_
   cases hm
   refine ⟨_, _, rfl, Qb1 rfl (Qab rfl), ?_⟩
   exact ⟨rfl, (Gr.refl w)⟩
 replace hm := iF c1 hm
 refine qk rfl<|qk rfl<|qm rfl<|qm rfl<|Qa1<|Qag ?_
 cases hm
 refine ⟨_, _, rfl, Qb1 rfl (Qab rfl), ?_⟩
 exact ⟨rfl, (Gr.refl w)⟩
theorem Qu6 {p0 p1 r} (hm : Qqz p0 p1 = some r) {w : World} :
    Calls Tryz.prog 174 [.agg (Qfr.cs p0).toArray, .int .i64 p1].toArray w fun e w' => ∃ v, e = .returned v ∧ (v = .tuple [.int .i64 r.1, .int .i64 r.2].toArray ∧ Gr w w') := by
 unfold Qqz at hm
 refine Qa5 18 Tryz.func174 rfl rfl rfl<|qs 3 rfl<|qe rfl (Qaq (cs := Qfr.cs p0) rfl rfl) ?_
 rintro _ w1 ⟨b1, rfl, d, c, G1⟩
 refine qm rfl<|qm rfl<|Qa1<|Qa3<|dw [([])] [] (.leaf [(0,10),(1,10),(2,10),(3,10),(4,10),(5,10),(6,10),(7,10),(8,10),(9,10),(10,10),(11,10),(12,10),(13,10)]) ?_
 intro w2 G2 f
 refine Qal<|dm 0 rfl rfl<|dh 0 rfl rfl (fun w hS => Qa0 Qll rfl) ?_
 have B3 := (c.gr G2)
 refine dh 0 rfl rfl (fun w hS => Qa2 (v := .int .i64 p0.Drift) Qaw rfl (Bx.kp B3 hS) rfl)<|dh 0 rfl rfl (fun w hS => Qi7 (k := .i64) (a := p1) (b := p0.Drift) rfl rfl)<|dh 0 rfl rfl (fun w hS => Qa0 Qp9 rfl)<|dh 0 rfl rfl (fun w hS => Qa2 (v := .int .i64 p0.Delay) Qaw rfl (Bx.kp B3 hS) rfl)<|dh 0 rfl rfl (fun w hS => Qi7 (k := .i64) (a := w64 (p1 - p0.Drift)) (b := p0.Delay) rfl rfl)<|dh 0 rfl rfl (fun w hS => Xhn rfl rfl)<|dm 0 rfl rfl ?_
 refine dh 0 rfl rfl (fun w hS => Qa0 Qll rfl)<|dh 0 rfl rfl (fun w hS => Qa2 (v := .int .i64 p0.Drift) Qaw rfl (Bx.kp B3 hS) rfl)<|dh 0 rfl rfl (fun w hS => Qce (k := .i64) (a := p1) (b := p0.Drift) rfl rfl)<|dm 0 rfl rfl<|dm 0 rfl rfl<|Qa1<|Qag ?_
 have X4 := (((Gr.refl w).trans G1).trans G2)
 cases hm
 refine ⟨_, _, rfl, Qbk rfl (Qab rfl) (Qab rfl), ?_⟩
 exact ⟨rfl, X4⟩
theorem Qrg {p0 p1 p2 r} (hm : Qnc p0 p1 p2 = some r) {w : World} :
    Calls Tryz.prog 94 [.agg (Qfr.cs p0).toArray, .int .i64 p1, bv p2].toArray w fun e w' => ∃ v, e = .returned v ∧ (v = .tuple [.int .i64 r.1, .bool r.2].toArray ∧ Gr w w') := by
 unfold Qnc at hm
 refine Qa5 39 Tryz.func94 rfl rfl rfl<|qs 3 rfl<|qe rfl (Qaq (cs := Qfr.cs p0) rfl rfl) ?_
 rintro _ w1 ⟨b1, rfl, j, c, G1⟩
 refine qm rfl<|qm rfl<|qd 8 rfl<|qv rfl (Qa4 Qht rfl c rfl)<|qm rfl ?_
 obtain ⟨x1, d, hm⟩ := bnd hm
 refine qe rfl (eC Xmd rfl (Qu6 d)) ?_
 rintro _ w2 ⟨rfl, G2⟩
 refine qm rfl<|qm rfl<|qm rfl<|qm rfl<|qm rfl<|Qa1<|Qa3 ?_
 refine qs 2 rfl<|qm rfl<|qv rfl (Qcd (a := x1.2) (b := 0) rfl rfl)<|Qa1<|Qam rfl (fun c1 => ?_) (fun c1 => ?_)
 · replace hm := iT c1 hm
   refine qs 2 rfl<|qm rfl<|qm rfl<|Qa1<|Qag<|Qb2 ?_
   have X4 := (((Gr.refl w).trans G1).trans G2)
   cases hm
   refine ⟨_, _, rfl, Qbk rfl (Qab rfl) (Qab rfl), ?_⟩
   exact ⟨rfl, X4⟩
 replace hm := iF c1 hm
 refine qu<|qs 5 rfl<|qm rfl<|qv rfl (Qa0 Qiu rfl) ?_
 have B5 := (c.gr G2)
 refine qv rfl (Qa2 (v := .int .i64 p0.Word) Qaw rfl B5 rfl) ?_
 obtain ⟨x2, f, hm⟩ := bnd hm
 refine qv rfl (Qo6 (a := x1.1) (b := p0.Word) rfl rfl f)<|qm rfl<|qd 10 rfl<|qm rfl<|qm rfl ?_
 refine qv rfl (Qw6 Qna rfl)<|qm rfl ?_
 obtain ⟨x3, g, hm⟩ := bnd hm
 refine qv rfl (Qjv (a := x2) (b := 4) rfl rfl g)<|qv rfl (Qi7 (k := .i64) (a := un8 p2) (b := x3) rfl rfl)<|qv rfl (Qce (k := .i64) (a := w64 ((un8 p2) - x3)) (b := 4) rfl rfl) ?_
 obtain ⟨x4, h, hm⟩ := bnd hm
 refine qv rfl (Qjv (a := w64 ((w64 ((un8 p2) - x3)) + 4)) (b := 4) rfl rfl h)<|qv rfl (Qce (k := .i64) (a := x2) (b := x4) rfl rfl)<|qm rfl<|Qa1<|Qa3<|dw [([])] [] (.leaf [(0,10),(1,10),(2,10),(3,10),(4,10),(5,10),(6,10),(7,10),(8,10)]) ?_
 intro w3 G3 l
 refine Qal<|dm 0 rfl rfl<|dm 0 rfl rfl<|dm 0 rfl rfl<|dh 0 rfl rfl (fun w hS => Qa0 Qiu rfl) ?_
 have B6 := (B5.gr G3)
 refine dh 0 rfl rfl (fun w hS => Qa2 (v := .int .i64 p0.Word) Qaw rfl (Bx.kp B6 hS) rfl) ?_
 obtain ⟨x5, i, hm⟩ := bnd hm
 refine dh 0 rfl rfl (fun w hS => Qo6 (a := x1.2) (b := p0.Word) rfl rfl i)<|dh 0 rfl rfl (fun w hS => Qo8 (a := w64 (x2 + x4)) (b := x5) rfl rfl)<|dm 0 rfl rfl<|dm 0 rfl rfl<|Qa1<|Qag ?_
 have X7 := ((((Gr.refl w).trans G1).trans G2).trans G3)
 cases hm
 refine ⟨_, _, rfl, Qbk rfl (Qab rfl) (Qab rfl), ?_⟩
 exact ⟨rfl, X7⟩
theorem Qwo {p0 p1 p2 r} (hm : Qoz p0 p1 p2 = some r) {w : World} :
    Calls Tryz.prog 45 [.agg (Qfr.cs p0).toArray, .int .i64 p1, bv p2].toArray w fun e w' => ∃ v, e = .returned v ∧ (v = .tuple [.int .i64 r.1, .int .i64 r.2].toArray ∧ Gr w w') := by
 unfold Qoz at hm
 refine Qa5 33 Tryz.func45 rfl rfl rfl<|qs 3 rfl<|qe rfl (Qaq (cs := Qfr.cs p0) rfl rfl) ?_
 rintro _ w1 ⟨b1, rfl, j, c, G1⟩
 refine qm rfl<|qm rfl<|Qa1<|Qa3<|qs 3 rfl<|qv rfl (Qa4 Qht rfl c rfl) ?_
 obtain ⟨x1, d, hm⟩ := bnd hm
 refine qe rfl (eC Xgv rfl (Qhf d)) ?_
 rintro _ w2 ⟨rfl, G2⟩
 refine qm rfl<|qd 2 rfl<|qm rfl<|qv rfl (Qc2 (a := x1) (b := 0) rfl rfl)<|Qa1 ?_
 refine Qam rfl (fun c1 => ?_) (fun c1 => ?_)
 · replace hm := iT c1 hm
   refine qs 3 rfl<|qm rfl<|qm rfl<|qm rfl<|Qa1<|Qag ?_
   refine Qb2 ?_
   have X4 := (((Gr.refl w).trans G1).trans G2)
   cases hm
   refine ⟨_, _, rfl, Qbk rfl (Qab rfl) (Qab rfl), ?_⟩
   exact ⟨rfl, X4⟩
 replace hm := iF c1 hm
 refine qu<|Qa3 ?_
 have X5 := (((Gr.refl w).trans G1).trans G2)
 refine qj (β := Bool) (rg 16 7) (fun a2 => [(22, .bool a2)]) (fun a2 wr => (Qj3 p0 p1 p2 a2 = some r) ∧ Kz [] w2 wr) ?_ ?_
 · refine qg 7 rfl<|qm rfl ?_
   obtain ⟨x4, f, hm⟩ := bnd hm
   refine qe rfl (eC Xph rfl (Qql f)) ?_
   rintro _ w5 ⟨rfl, G5⟩
   refine qv rfl (Qci rfl)<|qp rfl (Qac rfl) (fun c4 => ?_) (fun c4 => ?_)
   · replace hm := Qc8 c4 hm
     refine qk rfl<|qk rfl<|qm rfl<|Qa9 ?_
     exact ⟨rfl, true, sbq, hm, (kz0.gr G5)⟩
   replace hm := Qc7 c4 hm
   refine qm rfl<|qv rfl (Xid (p := p2) (q := 3#8) rfl rfl)<|qm rfl<|Qa9 ?_
   exact ⟨rfl, (decide (3#8 < p2)), sbq, hm, (kz0.gr G5)⟩
 clear hm; rintro a2 w3 ⟨hm, K3⟩
 unfold Qj3 at hm
 refine Qam rfl (fun c2 => ?_) (fun c2 => ?_)
 · replace hm := Qc8 c2 hm
   refine qs 2 rfl<|qm rfl<|qm rfl<|Qa1<|Qag<|Qb2 ?_
   have X7 := (X5.kz K3)
   cases hm
   refine ⟨_, _, rfl, Qbk rfl (Qab rfl) (Qab rfl), ?_⟩
   exact ⟨rfl, X7⟩
 replace hm := Qc7 c2 hm
 refine qu<|qs 9 rfl ?_
 have B8 := ((c.gr G2).kz K3)
 refine qv rfl (Qa4 Qht rfl B8 rfl)<|qm rfl<|qm rfl ?_
 obtain ⟨x3, g, hm⟩ := bnd hm
 refine qe rfl (eC Xqd rfl (Qrg g)) ?_
 rintro _ w4 ⟨rfl, G4⟩
 refine qm rfl<|qm rfl<|qm rfl<|qm rfl<|qm rfl<|Qa1<|Qa3 ?_
 refine qs 2 rfl<|qm rfl<|qv rfl (Qci rfl)<|Qa1<|Qam rfl (fun c3 => ?_) (fun c3 => ?_)
 · replace hm := Qc8 c3 hm
   refine qs 2 rfl<|qm rfl<|qm rfl<|Qa1<|Qag<|Qb2 ?_
   have h := ((X5.kz K3).trans G4)
   cases hm
   refine ⟨_, _, rfl, Qbk rfl (Qab rfl) (Qab rfl), ?_⟩
   exact ⟨rfl, h⟩
 replace hm := Qc7 c3 hm
 refine qu<|qs 3 rfl<|qm rfl<|qm rfl<|qm rfl ?_
 refine Qa1<|Qag ?_
 have i := ((X5.kz K3).trans G4)
 cases hm
 refine ⟨_, _, rfl, Qbk rfl (Qab rfl) (Qab rfl), ?_⟩
 exact ⟨rfl, i⟩
theorem Qrc {p0 p1 p2 r} (hm : Qnj p0 p1 p2 = some r) {w : World} :
    Calls Tryz.prog 95 [.agg (Qfr.cs p0).toArray, .int .i64 p1, .int .i64 p2].toArray w fun e w' => ∃ v, e = .returned v ∧ (v = .bool r ∧ Gr w w') := by
 unfold Qnj at hm
 refine Qa5 36 Tryz.func95 rfl rfl rfl<|qs 2 rfl<|qe rfl (Qaq (cs := Qfr.cs p0) rfl rfl) ?_
 rintro _ w1 ⟨b1, rfl, g, c, G1⟩
 refine qm rfl<|qd 8 rfl<|qv rfl (Qa4 Qht rfl c rfl)<|qm rfl ?_
 obtain ⟨x1, d, hm⟩ := bnd hm
 refine qe rfl (eC Xmd rfl (Qu6 d)) ?_
 rintro _ w2 ⟨rfl, G2⟩
 refine qm rfl<|qm rfl<|qm rfl<|qm rfl<|qm rfl<|Qa1<|Qa3 ?_
 refine qg 22 rfl<|qm rfl<|qv rfl (Qee (a := x1.2) (b := 0) rfl rfl)<|qpF rfl (Qac rfl) (fun c1 => ?_) (fun c1 => ?_)
 · replace hm := iF c1 hm
   refine qk rfl<|qk rfl<|qk rfl<|qk rfl<|qk rfl<|qk rfl<|qm rfl ?_
   refine qm rfl<|qk rfl<|qk rfl<|qk rfl<|qk rfl<|qk rfl<|qk rfl ?_
   refine qk rfl<|qk rfl<|qk rfl<|qm rfl<|qm rfl<|Qa1<|Qag ?_
   have X7 := (((Gr.refl w).trans G1).trans G2)
   cases hm
   refine ⟨_, _, rfl, Qb1 rfl (Qab rfl), ?_⟩
   exact ⟨rfl, X7⟩
 replace hm := iT c1 hm
 refine qm rfl<|qv rfl (Qa0 Qje rfl) ?_
 have B4 := (c.gr G2)
 refine qv rfl (Qa2 (v := .int .i64 p0.Epoch) Qaw rfl B4 rfl) ?_
 obtain ⟨x2, f, hm⟩ := bnd hm
 refine qv rfl (Qo6 (a := x1.1) (b := p0.Epoch) rfl rfl f)<|qm rfl<|qv rfl (Qo8 (a := x2) (b := p2) rfl rfl)<|qm rfl<|qpF rfl (Qac rfl) (fun c2 => ?_) (fun c2 => ?_)
 · replace hm := iF c2 hm
   refine qk rfl<|qk rfl<|qk rfl<|qk rfl<|qk rfl<|qk rfl<|qk rfl ?_
   refine qk rfl<|qk rfl<|qm rfl<|qm rfl<|Qa1<|Qag ?_
   have X6 := (((Gr.refl w).trans G1).trans G2)
   cases hm
   refine ⟨_, _, rfl, Qb1 rfl (Qab rfl), ?_⟩
   exact ⟨rfl, X6⟩
 replace hm := iT c2 hm
 refine qm rfl<|qm rfl<|qv rfl (Qa0 Qje rfl)<|qv rfl (Qa2 (v := .int .i64 p0.Epoch) Qaw rfl B4 rfl)<|qv rfl (Qjl (k := .i64) (a := p2) (b := p0.Epoch) rfl rfl)<|qv rfl (Qa0 Qrw rfl)<|qv rfl (Qa2 (v := .int .i64 p0.Early) Qaw rfl B4 rfl) ?_
 refine qv rfl (Qi7 (k := .i64) (a := w64 (p2 * p0.Epoch)) (b := p0.Early) rfl rfl)<|qv rfl (Qee (a := x1.2) (b := w64 ((w64 (p2 * p0.Epoch)) - p0.Early)) rfl rfl)<|qm rfl<|qm rfl<|Qa1<|Qag ?_
 have X5 := (((Gr.refl w).trans G1).trans G2)
 cases hm
 refine ⟨_, _, rfl, Qb1 rfl (Qab rfl), ?_⟩
 exact ⟨rfl, X5⟩
theorem Qwz {p0 p1 p2 r} (hm : Qpz p0 p1 p2 = some r) {w : World} :
    Calls Tryz.prog 47 [.agg (Qfr.cs p0).toArray, .int .i64 p1, .int .i64 p2].toArray w fun e w' => ∃ v, e = .returned v ∧ (v = .tuple [.bool r.1, .int .i64 r.2].toArray ∧ Gr w w') := by
 unfold Qpz at hm
 refine Qa5 26 Tryz.func47 rfl rfl rfl<|qs 3 rfl<|qe rfl (Qaq (cs := Qfr.cs p0) rfl rfl) ?_
 rintro _ w1 ⟨b1, rfl, j, c, G1⟩
 refine qm rfl<|qm rfl<|Qa1<|Qa3<|qs 3 rfl<|qv rfl (Qa4 Qht rfl c rfl) ?_
 obtain ⟨x1, d, hm⟩ := bnd hm
 refine qe rfl (eC Xgv rfl (Qhf d)) ?_
 rintro _ w2 ⟨rfl, G2⟩
 refine qm rfl<|qd 2 rfl<|qm rfl<|qv rfl (Qc2 (a := x1) (b := 0) rfl rfl)<|Qa1 ?_
 refine Qam rfl (fun c1 => ?_) (fun c1 => ?_)
 · replace hm := iT c1 hm
   refine qs 3 rfl<|qm rfl<|qm rfl<|qm rfl<|Qa1<|Qag ?_
   refine Qb2 ?_
   have X4 := (((Gr.refl w).trans G1).trans G2)
   cases hm
   refine ⟨_, _, rfl, Qbk rfl (Qab rfl) (Qab rfl), ?_⟩
   exact ⟨rfl, X4⟩
 replace hm := iF c1 hm
 refine qu<|Qa3 ?_
 have X5 := (((Gr.refl w).trans G1).trans G2)
 refine qj (β := Bool) (rg 14 8) (fun a2 => [(21, .bool a2)]) (fun a2 wr => (Qjz p0 p1 p2 a2 = some r) ∧ Kz [] w2 wr) ?_ ?_
 · refine qg 8 rfl<|qm rfl ?_
   obtain ⟨x4, f, hm⟩ := bnd hm
   refine qe rfl (eC Xph rfl (Qql f)) ?_
   rintro _ w5 ⟨rfl, G5⟩
   refine qv rfl (Qci rfl)<|qp rfl (Qac rfl) (fun c3 => ?_) (fun c3 => ?_)
   · replace hm := Qc8 c3 hm
     refine qk rfl<|qk rfl<|qk rfl<|qm rfl<|Qa9 ?_
     exact ⟨rfl, true, sbq, hm, (kz0.gr G5)⟩
   replace hm := Qc7 c3 hm
   refine qm rfl ?_
   obtain ⟨x5, g, hm⟩ := bnd hm
   refine qe rfl (eC Xb4 rfl (Qf3 g)) ?_
   rintro _ w6 ⟨rfl, G6⟩
   refine qv rfl (Qci rfl)<|qm rfl<|Qa9 ?_
   exact ⟨rfl, (!x5), sbq, hm, ((kz0.gr G5).gr G6)⟩
 clear hm; rintro a2 w3 ⟨hm, K3⟩
 unfold Qjz at hm
 refine Qam rfl (fun c2 => ?_) (fun c2 => ?_)
 · replace hm := Qc8 c2 hm
   refine qs 2 rfl<|qm rfl<|qm rfl<|Qa1<|Qag<|Qb2 ?_
   have X7 := (X5.kz K3)
   cases hm
   refine ⟨_, _, rfl, Qbk rfl (Qab rfl) (Qab rfl), ?_⟩
   exact ⟨rfl, X7⟩
 replace hm := Qc7 c2 hm
 refine qu<|qs 6 rfl ?_
 have B8 := ((c.gr G2).kz K3)
 refine qv rfl (Qa4 Qht rfl B8 rfl)<|qm rfl<|qm rfl ?_
 obtain ⟨x3, h, hm⟩ := bnd hm
 refine qe rfl (eC Xrr rfl (Qrc h)) ?_
 rintro _ w4 ⟨rfl, G4⟩
 refine qm rfl<|qm rfl<|Qa1<|Qag ?_
 have i := ((X5.kz K3).trans G4)
 cases hm
 refine ⟨_, _, rfl, Qbk rfl (Qab rfl) (Qab rfl), ?_⟩
 exact ⟨rfl, i⟩
theorem Qgk {p0 p1 r} (hm : Qe5 p0 p1 = some r) {w : World} :
    Calls Tryz.prog 15 [kv p0, .int .i64 p1].toArray w fun e w' => ∃ v, e = .returned v ∧ (v = kv r ∧ Gr w w') := by
 unfold Qe5 at hm
 refine Qa5 9 Tryz.func15 rfl rfl rfl<|qs 2 rfl<|qe rfl (Qaq (cs := kb p0) rfl rfl) ?_
 rintro _ w1 ⟨b1, rfl, d, a, G1⟩
 have g := a.lt
 refine qe rfl (Qa8 (cs := kb k0) Qeo rfl) ?_
 rintro _ w2 ⟨b2, rfl, f, b, G2⟩
 refine qd 5 rfl ?_
 have B5 := (a.gr G2)
 refine qv rfl (Qa4 Qak rfl B5 rfl)<|qm rfl<|qv rfl (Qfe Qfp rfl)<|qe rfl (eC Qpe rfl (Qes p0 (un8 50#8) (Qiy _) (Qiw _) (wd p1) _)) ?_
 rintro _ w3 ⟨rfl, G3⟩
 have B7 := (b.gr G3)
 refine qe rfl (Qaj Qak rfl rfl rfl B7 rfl rfl) ?_
 rintro _ w4 ⟨c, M4⟩
 refine Qa1<|Qag ?_
 have X9 := (((((Gr.refl w).trans G1).trans G2).trans G3).md M4)
 cases hm
 refine ⟨_, _, rfl, Qb1 rfl (Qap Qak rfl c rfl), ?_⟩
 exact ⟨rfl, X9⟩
theorem Qvw {p0 p1 p2 p3 p4 vp2 zp2 gp2 op2 r} (hm : Qgz p0 p1 p2 p3 p4 = some r) {w : World} (E : Rd w zp2 gp2 op2 1 vp2 (p2.map ic)) :
    Calls Tryz.prog 138 [kv p0, .agg (Qa7.cs p1).toArray, vp2, kv p3, wv p4].toArray w fun e w' => ∃ v, e = .returned v ∧ (∃ ur0_0 zr0_0 gr0_0 ur0_2 zr0_2 gr0_2, v = .tuple [.agg (Qaa.cs r.1 ur0_0 ur0_2).toArray, .int .i64 r.2].toArray ∧ Own w' zr0_0 gr0_0 133 18 ur0_0 (r.1.Items.map Qcc.cs) ∧ Hdn (zr0_0 = 0 ∨ w.heap.size ≤ gr0_0) ∧ Own w' zr0_2 gr0_2 31 2 ur0_2 (r.1.Points.map Qah.cs) ∧ Hdn (zr0_2 = 0 ∨ w.heap.size ≤ gr0_2) ∧ Hdn (zr0_2 = 0 ∨ zr0_0 = 0 ∨ gr0_2 ≠ gr0_0) ∧ Gr w w') := by
 unfold Qgz at hm
 refine Qa5 31 Tryz.func138 rfl rfl rfl<|qs 5 rfl<|qe rfl (Qaq (cs := kb p0) rfl rfl) ?_
 rintro _ w1 ⟨b1, rfl, T, q, G1⟩
 have X := q.lt
 refine qe rfl (Qaq (cs := Qa7.cs p1) rfl rfl) ?_
 rintro _ w2 ⟨b2, rfl, U, s, G2⟩
 have Y := s.lt
 refine qe rfl (Qaq (cs := kb p3) rfl rfl) ?_
 rintro _ w3 ⟨b3, rfl, V, t, G3⟩
 have Z := t.lt
 refine qe rfl (Qa8 (cs := Qaa.cs (Qaa.mk [] 0#64 [] k0 k0) (.slice none 0 0) (.slice none 0 0)) Quy rfl) ?_
 rintro _ w4 ⟨b4, rfl, W, p, G4⟩
 have aa := p.lt
 refine qm rfl<|qd 8 rfl ?_
 have Y1 := Gr.trans G3 G4
 have u := (s.gr Y1)
 refine qv rfl (Qa4 Qcn rfl u rfl)<|qm rfl ?_
 have Y2 := Gr.trans (Gr.trans G1 G2) Y1
 have F := (E.gr Y2)
 obtain ⟨x1, G, hm⟩ := bnd hm
 refine qe rfl (eC Xun rfl (Qy1 G F)) ?_
 rintro _ w5 ⟨y, z, B, rfl, h, C, G5⟩
 have ab := G5.size
 refine qm rfl<|qm rfl<|qm rfl<|qm rfl<|qm rfl<|Qa1<|Qa3 ?_
 refine qs 2 rfl<|qm rfl<|qv rfl (Qc2 (a := x1.2) (b := 0) rfl rfl)<|Qa1<|Qam rfl (fun c1 => ?_) (fun c1 => ?_)
 · replace hm := iT c1 hm
   refine qs 4 rfl<|qv rfl (Qas (cs := Qaa.cs (Qaa.mk [] 0#64 [] k0 k0) (.slice none 0 0) (.slice none 0 0)) Qr4 rfl (by kernel_rfl))<|qm rfl ?_
   have H := (p.gr G5)
   refine qe rfl (Qaj Qcs rfl rfl (Qaa.cs_ones _ _ _ rfl rfl) H rfl rfl) ?_
   rintro _ w6 ⟨I, M6⟩
   refine qm rfl<|qb ?_
   have J := ((((Gr.refl w).trans Y2).trans G5).md M6)
   cases hm
   refine ⟨_, _, rfl, Qbk rfl (Qap Qcs rfl I rfl) (Qab rfl), ?_⟩
   exact ⟨(.slice none 0 0), 0, 0, (.slice none 0 0), 0, 0, rfl, (Qax _ 0 133 18), ⟨.inl rfl⟩, (Qax _ 0 31 2), ⟨.inl rfl⟩, ⟨(.inl rfl)⟩, J⟩
 replace hm := iF c1 hm
 refine qu<|qs 9 rfl ?_
 have Y3 := Gr.trans (Gr.trans G2 Y1) G5
 have K := (q.gr Y3)
 refine qv rfl (Qa4 Qak rfl K rfl) ?_
 have L := (u.gr G5)
 refine qv rfl (Qa4 Qcn rfl L rfl)<|qm rfl ?_
 have Y4 := Gr.trans G4 G5
 have M := (t.gr Y4)
 refine qv rfl (Qa4 Qak rfl M rfl) ?_
 obtain ⟨x2, N, hm⟩ := bnd hm
 refine qe rfl (eC Xtb rfl (Xaa N (Own.rd h))) ?_
 rintro _ w7 ⟨i, j, k, l, m, n, rfl, c, d, f, g, D, G7⟩
 refine qm rfl<|qm rfl ?_
 have O := ((p.gr G5).gr G7)
 refine qe rfl (Qaj Qcs rfl rfl (Qaa.cs_ones _ _ _ (Own.oneB c) (Own.oneB f)) O rfl rfl) ?_
 rintro _ w8 ⟨P, M8⟩
 refine qm rfl<|Qa1<|Qag ?_
 have Q := (c.md M8 (Qd7 d))
 have R := (f.md M8 (Qd7 g))
 have S := (((((Gr.refl w).trans Y2).trans G5).trans G7).md M8)
 cases hm
 refine ⟨_, _, rfl, Qbk rfl (Qap Qcs rfl P rfl) (Qab rfl), ?_⟩
 exact ⟨i, j, k, l, m, n, rfl, Q, ⟨(Qbs (A := (fun x => w.heap.size ≤ x)) d)⟩, R, ⟨(Qbs (A := (fun x => w.heap.size ≤ x)) g)⟩, ⟨(tk1 D.o)⟩, S⟩
theorem Qup {p0 p1 p2 p3 vp3 zp3 gp3 op3 r} (hm : Qjh p0 p1 p2 p3 = some r) {w : World} (am : Rd w zp3 gp3 op3 1 vp3 (p3.map ic)) :
    Calls Tryz.prog 23 [kv p0, .agg (Qa7.cs p1).toArray, .int .i64 p2, vp3].toArray w fun e w' => ∃ v, e = .returned v ∧ (∃ ur0_0 zr0_0 gr0_0 ur0_2 zr0_2 gr0_2, v = .tuple [.agg (Qaa.cs r.1 ur0_0 ur0_2).toArray, .int .i64 r.2].toArray ∧ Own w' zr0_0 gr0_0 133 18 ur0_0 (r.1.Items.map Qcc.cs) ∧ Hdn (zr0_0 = 0 ∨ w.heap.size ≤ gr0_0) ∧ Own w' zr0_2 gr0_2 31 2 ur0_2 (r.1.Points.map Qah.cs) ∧ Hdn (zr0_2 = 0 ∨ w.heap.size ≤ gr0_2) ∧ Hdn (zr0_2 = 0 ∨ zr0_0 = 0 ∨ gr0_2 ≠ gr0_0) ∧ Gr w w') := by
 have l := am.lth
 unfold Qjh at hm
 refine Qa5 38 Tryz.func23 rfl rfl rfl<|qs 4 rfl<|qe rfl (Qaq (cs := kb p0) rfl rfl) ?_
 rintro _ w1 ⟨b1, rfl, cd, an, G1⟩
 have cy := an.lt
 refine qe rfl (Qaq (cs := Qa7.cs p1) rfl rfl) ?_
 rintro _ w2 ⟨b2, rfl, ce, aA, G2⟩
 have cz := aA.lt
 refine qe rfl (Qa8 (cs := Qaa.cs (Qaa.mk [] 0#64 [] k0 k0) (.slice none 0 0) (.slice none 0 0)) Quy rfl) ?_
 rintro _ w3 ⟨b3, rfl, cf, H, G3⟩
 have cA := H.lt
 refine qm rfl<|qd 8 rfl ?_
 have B8 := (aA.gr G3)
 refine qv rfl (Qa4 Qcn rfl B8 rfl)<|Qxq 33 Tryz.func61 rfl rfl rfl Xl2 rfl rfl rfl rfl rfl<|qs 3 rfl<|qe rfl (Qaq (cs := Qa7.cs p1) rfl rfl) ?_
 rintro _ w4 ⟨b4, rfl, cg, ao, G4⟩
 have ch := ao.lt
 refine qe rfl (Qa8 (cs := [.nilFunc, .nilFunc, .nilFunc, .nilFunc]) Qfw rfl) ?_
 rintro _ w5 ⟨b5, rfl, ci, aa, G5⟩
 have cj := aa.lt
 refine qm rfl<|qd 3 rfl<|qv rfl (Qas (cs := [.func (.func 121) #[] #[], .func (.func 137) #[] #[], .func (.func 53) #[] #[], .func (.func 138) #[] #[]]) Qlp rfl rfl)<|qe rfl (Qa8 (cs := [.nilFunc, .nilFunc, .nilFunc, .nilFunc]) Qfw rfl) ?_
 rintro _ w6 ⟨b6, rfl, ck, aB, G6⟩
 have cl := aB.lt
 refine qe rfl (Qaj Qav rfl rfl rfl aB rfl rfl) ?_
 rintro _ w7 ⟨ap, M7⟩
 have cB := M7.size
 refine qd 8 rfl<|qv rfl (Qas (cs := [.nilFunc, .nilFunc, .nilFunc, .nilFunc]) Qlp rfl rfl)<|qv rfl (Qb6 (vs := [.func (.func 121) #[] #[], .func (.func 137) #[] #[], .func (.func 53) #[] #[], .func (.func 138) #[] #[]]) Qav rfl ap rfl rfl)<|qv rfl (Qb6 (vs := [.func (.func 121) #[] #[], .func (.func 137) #[] #[], .func (.func 53) #[] #[], .func (.func 138) #[] #[]]) Qav rfl ap rfl rfl)<|qv rfl (Qb6 (vs := [.func (.func 121) #[] #[], .func (.func 137) #[] #[], .func (.func 53) #[] #[], .func (.func 138) #[] #[]]) Qav rfl ap rfl rfl) ?_
 refine qv rfl (Qas (cs := [.func (.func 139) #[] #[], .func (.func 140) #[] #[], .func (.func 50) #[] #[], .func (.func 49) #[] #[]]) Qlp rfl rfl)<|qv rfl (Qqh (cs := [.nilFunc, .nilFunc, .nilFunc, .nilFunc, .func (.func 121) #[] #[], .func (.func 137) #[] #[], .func (.func 53) #[] #[], .func (.func 138) #[] #[], .func (.func 121) #[] #[], .func (.func 137) #[] #[], .func (.func 53) #[] #[], .func (.func 138) #[] #[], .func (.func 121) #[] #[], .func (.func 137) #[] #[], .func (.func 53) #[] #[], .func (.func 138) #[] #[], .func (.func 139) #[] #[], .func (.func 140) #[] #[], .func (.func 50) #[] #[], .func (.func 49) #[] #[]]) Xd3 rfl rfl)<|qe rfl (Qa8 (cs := [.nilFunc, .nilFunc, .nilFunc, .nilFunc, .nilFunc, .nilFunc, .nilFunc, .nilFunc, .nilFunc, .nilFunc, .nilFunc, .nilFunc, .nilFunc, .nilFunc, .nilFunc, .nilFunc, .nilFunc, .nilFunc, .nilFunc, .nilFunc]) Qzv rfl) ?_
 rintro _ w8 ⟨b8, rfl, cm, aC, G8⟩
 have cn := aC.lt
 refine qe rfl (Qaj Qxy rfl rfl rfl aC rfl rfl) ?_
 rintro _ w9 ⟨aD, M9⟩
 have cC := M9.size
 refine Qa1<|Qa3 ?_
 have Y1 := Gr.trans (Gr.trans (Gr.trans (Gr.trans (Gr.trans G1 G2) G3) G4) G5) G6
 have I := (((((Gr.refl w).trans Y1).md M7).trans G8).md M9)
 refine qj (β := Bool) (rg 14 9) (fun a1 => [(22, .bool a1)]) (fun a1 wr => (Qgx p0 p1 p2 p3 a1 = some r) ∧ Kz [] w9 wr) ?_ ?_
 · refine qg 9 rfl<|qv rfl (Qa0 Qi3 rfl) ?_
   have Y2 := Gr.trans G5 G6
   have ah := ((((ao.gr Y2).md M7).gr G8).md M9)
   refine qv rfl (Qa2 (v := bv p1.Kind) Qcu rfl ah rfl)<|qv rfl (Qtt (p := p1.Kind) (q := 1#8) rfl rfl)<|qp rfl (Qac rfl) (fun c8 => ?_) (fun c8 => ?_)
   · replace hm := iT c8 hm
     refine qk rfl<|qk rfl<|qk rfl<|qk rfl<|qm rfl<|Qa9 ?_
     exact ⟨rfl, true, sbq, hm, kz0⟩
   replace hm := iF c8 hm
   refine qv rfl (Qa0 Qi3 rfl)<|qv rfl (Qa2 (v := bv p1.Kind) Qcu rfl ah rfl)<|qv rfl (Qw6 Qna rfl)<|qv rfl (Qee (a := un8 p1.Kind) (b := 5) rfl rfl)<|qm rfl<|Qa9 ?_
   exact ⟨rfl, (decide ((5 : Int) ≤ un8 p1.Kind)), sbq, hm, kz0⟩
 clear hm; rintro a1 cD ⟨hm, c⟩
 have cE := c.size
 unfold Qgx at hm
 refine Qam rfl (fun c1 => ?_) (fun c1 => ?_)
 · replace hm := Qc8 c1 hm
   refine qs 3 rfl<|qv rfl (Qas (cs := [.nilFunc, .nilFunc, .nilFunc, .nilFunc]) Qlp rfl rfl) ?_
   have a2 := (((((aa.gr G6).md M7).gr G8).md M9).kz c)
   refine qe rfl (Qaj Qav rfl rfl rfl a2 rfl rfl) ?_
   rintro _ cF ⟨aE, aq⟩
   have cG := aq.size
   refine qm rfl<|qb<|⟨_, _, rfl, Qbk rfl (Qap Qav rfl aE rfl) (Qab rfl), ?_⟩
   refine qm rfl<|qm rfl<|qm rfl<|qe rfl (Qa8 (cs := [.nilFunc, .nilFunc, .nilFunc, .nilFunc]) Qfw rfl) ?_
   rintro _ cH ⟨cI, rfl, a3, aF, aG⟩
   refine qe rfl (Qaj Qav rfl rfl rfl aF rfl rfl) ?_
   rintro _ cJ ⟨co, aH⟩
   refine qm rfl<|Qa1<|Qa3<|qs 2 rfl<|qm rfl<|qv rfl (Qc2 (a := 2) (b := 0) rfl rfl) ?_
   refine Qa1<|Qjs rfl<|qs 4 rfl<|qv rfl (Qas (cs := Qaa.cs (Qaa.mk [] 0#64 [] k0 k0) (.slice none 0 0) (.slice none 0 0)) Qr4 rfl (by kernel_rfl))<|qm rfl ?_
   have Y3 := Gr.trans (Gr.trans G4 G5) G6
   have a4 := ((((((((H.gr Y3).md M7).gr G8).md M9).kz c).md aq).gr aG).md aH)
   refine qe rfl (Qaj Qcs rfl rfl (Qaa.cs_ones _ _ _ rfl rfl) a4 rfl rfl) ?_
   rintro _ cK ⟨aI, a5⟩
   refine qm rfl<|qb ?_
   have a6 := (((((I.kz c).md aq).trans aG).md aH).md a5)
   cases hm
   refine ⟨_, _, rfl, Qbk rfl (Qap Qcs rfl aI rfl) (Qab rfl), ?_⟩
   exact ⟨(.slice none 0 0), 0, 0, (.slice none 0 0), 0, 0, rfl, (Qax _ 0 133 18), ⟨.inl rfl⟩, (Qax _ 0 31 2), ⟨.inl rfl⟩, ⟨(.inl rfl)⟩, a6⟩
 replace hm := Qc7 c1 hm
 refine qu<|qs 6 rfl<|qv rfl (Qa0 Qi3 rfl) ?_
 have Y4 := Gr.trans G5 G6
 have ar := (((((ao.gr Y4).md M7).gr G8).md M9).kz c)
 refine qv rfl (Qa2 (v := bv p1.Kind) Qcu rfl ar rfl) ?_
 by_cases c2 : (un8 p1.Kind = 1 ∨ un8 p1.Kind = 2 ∨ un8 p1.Kind = 3)
 · replace hm := Qzd c2 hm
   refine qv rfl (Quo Tryz.underlying206 (Qav).siz rfl rfl (by omega)) ?_
   have a7 := (aD.kz c)
   refine qv rfl (Qb6 (vs := [.func (.func 121) #[] #[], .func (.func 137) #[] #[], .func (.func 53) #[] #[], .func (.func 138) #[] #[]]) Qav rfl a7 (by rcases c2 with h | h | h <;> rw [h] <;> rfl) rfl)<|qe rfl (Qa8 (cs := [.nilFunc, .nilFunc, .nilFunc, .nilFunc]) Qfw rfl) ?_
   rintro _ cL ⟨cM, rfl, a8, ai, j⟩
   have cp := ai.lt
   refine qe rfl (Qaj Qav rfl rfl rfl ai rfl rfl) ?_
   rintro _ cN ⟨aJ, d⟩
   have cO := d.size
   refine Qa1<|Qa3<|dw [([b5])] [] (.leaf [(0,10),(1,10),(2,10),(3,10),(4,0),(5,0),(6,10)]) ?_
   intro a9 au cq
   refine Qal ?_
   have aK := (aJ.gr au)
   refine dh 0 rfl rfl (fun w hS => Qb6 (vs := [.func (.func 121) #[] #[], .func (.func 137) #[] #[], .func (.func 53) #[] #[], .func (.func 138) #[] #[]]) Qav rfl (Bx.kp aK hS) rfl rfl)<|dh 0 rfl rfl (fun w hS => Qa0 Qne rfl)<|dh 0 rfl rfl (fun w hS => Qa2 (v := .func (.func 121) #[] #[]) Qsn rfl (Bx.kp aK hS) rfl) ?_
   have ba := (((ar.gr j).md d).gr au)
   refine dh 0 rfl rfl (fun w hS => Qa4 Qcn rfl (Bx.kp ba hS) rfl) ?_
   obtain ⟨x2, bb, hm⟩ := bnd hm
   refine qz [] rfl (Qcy Xa5 rfl rfl (Qk2 bb)) ⟨fun _ => tk0, trivial⟩ ?_
   rintro _ cP ⟨rfl, ab⟩
   have cQ := ab.size
   refine kG ab ?_
   have Y5 := Gr.trans au ab
   have bc := ((((((((aa.gr G6).md M7).gr G8).md M9).kz c).gr j).md d).gr Y5)
   refine qz [(1, b5)] rfl (Qaj Qav rfl rfl rfl bc rfl rfl) ⟨fun _ => tk0, trivial⟩ ?_
   rintro _ cR ⟨aL, f⟩
   have cS := f.size
   refine kM f ?_
   have bd := (((Kp.refl ([b5]) a9).gr ab).md f)
   refine dn 0 rfl rfl bd<|Qa1<|Qag<|⟨_, _, rfl, Qbk rfl (Qap Qav rfl aL rfl) (Qab rfl), ?_⟩
   refine qm rfl<|qm rfl<|qm rfl<|qe rfl (Qa8 (cs := [.nilFunc, .nilFunc, .nilFunc, .nilFunc]) Qfw rfl) ?_
   rintro _ cT ⟨cU, rfl, be, aj, F⟩
   have cr := aj.lt
   refine qe rfl (Qaj Qav rfl rfl rfl aj rfl rfl) ?_
   rintro _ cV ⟨aM, m⟩
   have cW := m.size
   refine qm rfl<|Qa1<|Qa3<|qs 2 rfl<|qm rfl<|qv rfl (Qc2 (a := x2) (b := 0) rfl rfl) ?_
   refine Qa1<|Qam rfl (fun c3 => ?_) (fun c3 => ?_)
   · replace hm := iT c3 hm
     refine qs 4 rfl<|qv rfl (Qas (cs := Qaa.cs (Qaa.mk [] 0#64 [] k0 k0) (.slice none 0 0) (.slice none 0 0)) Qr4 rfl (by kernel_rfl))<|qm rfl ?_
     have Y6 := Gr.trans G4 Y4
     have bf := (((((((((((H.gr Y6).md M7).gr G8).md M9).kz c).gr j).md d).gr Y5).md f).gr F).md m)
     refine qe rfl (Qaj Qcs rfl rfl (Qaa.cs_ones _ _ _ rfl rfl) bf rfl rfl) ?_
     rintro _ cX ⟨aN, bg⟩
     refine qm rfl<|qb ?_
     have bh := ((((((((I.kz c).trans j).md d).trans Y5).md f).trans F).md m).md bg)
     cases hm
     refine ⟨_, _, rfl, Qbk rfl (Qap Qcs rfl aN rfl) (Qab rfl), ?_⟩
     exact ⟨(.slice none 0 0), 0, 0, (.slice none 0 0), 0, 0, rfl, (Qax _ 0 133 18), ⟨.inl rfl⟩, (Qax _ 0 31 2), ⟨.inl rfl⟩, ⟨(.inl rfl)⟩, bh⟩
   replace hm := iF c3 hm
   refine qu<|Qa3<|qs 3 rfl<|qm rfl ?_
   obtain ⟨x3, bi, hm⟩ := bnd hm
   refine qe rfl (eC Xb4 rfl (Qf3 bi)) ?_
   rintro _ cY ⟨rfl, ac⟩
   have cZ := ac.size
   refine qv rfl (Qci rfl)<|Qa1<|Qam rfl (fun c4 => ?_) (fun c4 => ?_)
   · replace hm := Qc8 c4 hm
     refine qs 3 rfl<|qv rfl (Qas (cs := Qaa.cs (Qaa.mk [] 0#64 [] k0 k0) (.slice none 0 0) (.slice none 0 0)) Qr4 rfl (by kernel_rfl)) ?_
     have Y7 := Gr.trans G4 Y4
     have bj := ((((((((((((H.gr Y7).md M7).gr G8).md M9).kz c).gr j).md d).gr Y5).md f).gr F).md m).gr ac)
     refine qe rfl (Qaj Qcs rfl rfl (Qaa.cs_ones _ _ _ rfl rfl) bj rfl rfl) ?_
     rintro _ c0 ⟨aO, bk⟩
     refine qm rfl<|qb ?_
     have bl := (((((((((I.kz c).trans j).md d).trans Y5).md f).trans F).md m).trans ac).md bk)
     cases hm
     refine ⟨_, _, rfl, Qbk rfl (Qap Qcs rfl aO rfl) (Qab rfl), ?_⟩
     exact ⟨(.slice none 0 0), 0, 0, (.slice none 0 0), 0, 0, rfl, (Qax _ 0 133 18), ⟨.inl rfl⟩, (Qax _ 0 31 2), ⟨.inl rfl⟩, ⟨(.inl rfl)⟩, bl⟩
   replace hm := Qc7 c4 hm
   refine qu<|Qa3<|dw [([b3])] [] (.leaf [(0,10),(1,10),(2,10),(3,10),(4,10),(5,10),(6,10),(8,10),(9,10),(7,0),(10,0),(11,10),(12,10),(13,0),(14,10)]) ?_
   intro bm bo ct
   refine Qal<|dh 0 rfl rfl (fun w hS => Qa0 Xd7 rfl) ?_
   have Y8 := Gr.trans ac bo
   have bp := (aM.gr Y8)
   refine dh 0 rfl rfl (fun w hS => Qa2 (v := .func (.func 138) #[] #[]) Xc9 rfl (Bx.kp bp hS) rfl) ?_
   have Y9 := Gr.trans (Gr.trans (Gr.trans G2 G3) G4) Y4
   have aP := ((((((((((((an.gr Y9).md M7).gr G8).md M9).kz c).gr j).md d).gr Y5).md f).gr F).md m).gr Y8)
   refine dh 0 rfl rfl (fun w hS => Qa4 Qak rfl (Bx.kp aP hS) rfl) ?_
   have aQ := Gr.trans G4 Y4
   have bq := ((((((((((((B8.gr aQ).md M7).gr G8).md M9).kz c).gr j).md d).gr Y5).md f).gr F).md m).gr Y8)
   refine dh 0 rfl rfl (fun w hS => Qa4 Qcn rfl (Bx.kp bq hS) rfl)<|dm 0 rfl rfl<|dh 0 rfl rfl (fun w hS => Qa4 Qak rfl (Bx.kp aP hS) rfl)<|dm 0 rfl rfl<|dm 0 rfl rfl<|dh 0 rfl rfl (fun w hS => Qfe Qfp rfl) ?_
   obtain ⟨x4, br, hm⟩ := bnd hm
   refine qz [] rfl (eC Xeu rfl (Qgk br)) ⟨fun _ => tk0, trivial⟩ ?_
   rintro _ c9 ⟨rfl, J⟩
   have da := J.size
   refine kG J ?_
   have bs := (((((((((((((am.gr Y1).md M7 (Qau l)).gr G8).md M9 (Qau l)).kz c).gr j).md d (Qau l)).gr Y5).md f (Qau l)).gr F).md m (Qau l)).gr Y8).gr J)
   obtain ⟨x5, bu, hm⟩ := bnd hm
   refine qz [] rfl (Qcy Xsb rfl rfl (Qvw bu bs)) ⟨fun _ => tk0, trivial⟩ ?_
   rintro _ db ⟨K, L, M, N, O, P, rfl, t, u, y, z, av, ad⟩
   refine kG ad ?_
   have aw := (((Kp.refl ([b3]) bm).gr J).gr ad)
   refine dn 0 rfl rfl aw<|dn 0 rfl rfl aw ?_
   have bw := ((((((((((((((H.gr aQ).md M7).gr G8).md M9).kz c).gr j).md d).gr Y5).md f).gr F).md m).gr Y8).gr J).gr ad)
   refine qz [(1, b3)] rfl (Qaj Qcs rfl rfl (Qaa.cs_ones _ _ _ (Own.oneB t) (Own.oneB y)) bw rfl rfl) ⟨fun _ => tk0, trivial⟩ ?_
   rintro _ dc ⟨aR, Y⟩
   refine kM Y ?_
   have bx := (aw.md Y)
   refine dn 0 rfl rfl bx<|Qa1<|Qag ?_
   have bz := (t.md Y (Qd7 u))
   have bA := (y.md Y (Qd7 z))
   have bB := (((((((((((I.kz c).trans j).md d).trans Y5).md f).trans F).md m).trans Y8).trans J).trans ad).md Y)
   cases hm
   refine ⟨_, _, rfl, Qbk rfl (Qap Qcs rfl aR rfl) (Qab rfl), ?_⟩
   exact ⟨K, L, M, N, O, P, rfl, bz, ⟨(Qbs (A := (fun x => w.heap.size ≤ x)) u)⟩, bA, ⟨(Qbs (A := (fun x => w.heap.size ≤ x)) z)⟩, ⟨(tk1 av.o)⟩, bB⟩
 replace hm := Qyd c2 hm
 by_cases c5 : (un8 p1.Kind = 4)
 · replace hm := Qzd c5 hm
   refine qv rfl (Quo Tryz.underlying206 (Qav).siz rfl rfl (by omega)) ?_
   have bC := (aD.kz c)
   refine qv rfl (Qb6 (vs := [.func (.func 139) #[] #[], .func (.func 140) #[] #[], .func (.func 50) #[] #[], .func (.func 49) #[] #[]]) Qav rfl bC (by rw [c5]; rfl) rfl)<|qe rfl (Qa8 (cs := [.nilFunc, .nilFunc, .nilFunc, .nilFunc]) Qfw rfl) ?_
   rintro _ de ⟨df, rfl, bD, ak, k⟩
   have cu := ak.lt
   refine qe rfl (Qaj Qav rfl rfl rfl ak rfl rfl) ?_
   rintro _ dg ⟨aS, g⟩
   have di := g.size
   refine Qa1<|Qa3<|dw [([b5])] [] (.leaf [(0,10),(1,10),(2,10),(3,10),(4,0),(5,0),(6,10)]) ?_
   intro bE ax cv
   refine Qal ?_
   have aT := (aS.gr ax)
   refine dh 0 rfl rfl (fun w hS => Qb6 (vs := [.func (.func 139) #[] #[], .func (.func 140) #[] #[], .func (.func 50) #[] #[], .func (.func 49) #[] #[]]) Qav rfl (Bx.kp aT hS) rfl rfl)<|dh 0 rfl rfl (fun w hS => Qa0 Qne rfl)<|dh 0 rfl rfl (fun w hS => Qa2 (v := .func (.func 139) #[] #[]) Qsn rfl (Bx.kp aT hS) rfl) ?_
   have bF := (((ar.gr k).md g).gr ax)
   refine dh 0 rfl rfl (fun w hS => Qa4 Qcn rfl (Bx.kp bF hS) rfl) ?_
   obtain ⟨x6, bG, hm⟩ := bnd hm
   refine qz [] rfl (Qcy Xdm rfl rfl (Qn4 bG)) ⟨fun _ => tk0, trivial⟩ ?_
   rintro _ dj ⟨rfl, ae⟩
   have dk := ae.size
   refine kG ae ?_
   have n := Gr.trans ax ae
   have bH := ((((((((aa.gr G6).md M7).gr G8).md M9).kz c).gr k).md g).gr n)
   refine qz [(1, b5)] rfl (Qaj Qav rfl rfl rfl bH rfl rfl) ⟨fun _ => tk0, trivial⟩ ?_
   rintro _ dl ⟨aU, i⟩
   have dp := i.size
   refine kM i ?_
   have bI := (((Kp.refl ([b5]) bE).gr ae).md i)
   refine dn 0 rfl rfl bI<|Qa1<|Qag<|⟨_, _, rfl, Qbk rfl (Qap Qav rfl aU rfl) (Qab rfl), ?_⟩
   refine qm rfl<|qm rfl<|qm rfl<|qe rfl (Qa8 (cs := [.nilFunc, .nilFunc, .nilFunc, .nilFunc]) Qfw rfl) ?_
   rintro _ dq ⟨dr, rfl, bJ, al, G⟩
   have cw := al.lt
   refine qe rfl (Qaj Qav rfl rfl rfl al rfl rfl) ?_
   rintro _ ds ⟨aV, s⟩
   have dt := s.size
   refine qm rfl<|Qa1<|Qa3<|qs 2 rfl<|qm rfl<|qv rfl (Qc2 (a := x6) (b := 0) rfl rfl) ?_
   refine Qa1<|Qam rfl (fun c6 => ?_) (fun c6 => ?_)
   · replace hm := iT c6 hm
     refine qs 4 rfl<|qv rfl (Qas (cs := Qaa.cs (Qaa.mk [] 0#64 [] k0 k0) (.slice none 0 0) (.slice none 0 0)) Qr4 rfl (by kernel_rfl))<|qm rfl ?_
     have bK := Gr.trans G4 Y4
     have bL := (((((((((((H.gr bK).md M7).gr G8).md M9).kz c).gr k).md g).gr n).md i).gr G).md s)
     refine qe rfl (Qaj Qcs rfl rfl (Qaa.cs_ones _ _ _ rfl rfl) bL rfl rfl) ?_
     rintro _ du ⟨aW, bM⟩
     refine qm rfl<|qb ?_
     have bN := ((((((((I.kz c).trans k).md g).trans n).md i).trans G).md s).md bM)
     cases hm
     refine ⟨_, _, rfl, Qbk rfl (Qap Qcs rfl aW rfl) (Qab rfl), ?_⟩
     exact ⟨(.slice none 0 0), 0, 0, (.slice none 0 0), 0, 0, rfl, (Qax _ 0 133 18), ⟨.inl rfl⟩, (Qax _ 0 31 2), ⟨.inl rfl⟩, ⟨(.inl rfl)⟩, bN⟩
   replace hm := iF c6 hm
   refine qu<|Qa3<|qs 3 rfl<|qm rfl ?_
   obtain ⟨x7, bO, hm⟩ := bnd hm
   refine qe rfl (eC Xb4 rfl (Qf3 bO)) ?_
   rintro _ dv ⟨rfl, af⟩
   have dy := af.size
   refine qv rfl (Qci rfl)<|Qa1<|Qam rfl (fun c7 => ?_) (fun c7 => ?_)
   · replace hm := Qc8 c7 hm
     refine qs 3 rfl<|qv rfl (Qas (cs := Qaa.cs (Qaa.mk [] 0#64 [] k0 k0) (.slice none 0 0) (.slice none 0 0)) Qr4 rfl (by kernel_rfl)) ?_
     have bP := Gr.trans G4 Y4
     have bQ := ((((((((((((H.gr bP).md M7).gr G8).md M9).kz c).gr k).md g).gr n).md i).gr G).md s).gr af)
     refine qe rfl (Qaj Qcs rfl rfl (Qaa.cs_ones _ _ _ rfl rfl) bQ rfl rfl) ?_
     rintro _ dz ⟨aX, bR⟩
     refine qm rfl<|qb ?_
     have bS := (((((((((I.kz c).trans k).md g).trans n).md i).trans G).md s).trans af).md bR)
     cases hm
     refine ⟨_, _, rfl, Qbk rfl (Qap Qcs rfl aX rfl) (Qab rfl), ?_⟩
     exact ⟨(.slice none 0 0), 0, 0, (.slice none 0 0), 0, 0, rfl, (Qax _ 0 133 18), ⟨.inl rfl⟩, (Qax _ 0 31 2), ⟨.inl rfl⟩, ⟨(.inl rfl)⟩, bS⟩
   replace hm := Qc7 c7 hm
   refine qu<|Qa3<|dw [([b3])] [] (.leaf [(0,10),(1,10),(2,10),(3,10),(4,10),(5,10),(6,10),(8,10),(9,10),(7,0),(10,0),(11,10),(12,10),(13,0),(14,10)]) ?_
   intro bT bU cx
   refine Qal<|dh 0 rfl rfl (fun w hS => Qa0 Xd7 rfl) ?_
   have Q := Gr.trans af bU
   have bV := (aV.gr Q)
   refine dh 0 rfl rfl (fun w hS => Qa2 (v := .func (.func 49) #[] #[]) Xc9 rfl (Bx.kp bV hS) rfl) ?_
   have bW := Gr.trans (Gr.trans (Gr.trans G2 G3) G4) Y4
   have aY := ((((((((((((an.gr bW).md M7).gr G8).md M9).kz c).gr k).md g).gr n).md i).gr G).md s).gr Q)
   refine dh 0 rfl rfl (fun w hS => Qa4 Qak rfl (Bx.kp aY hS) rfl) ?_
   have aZ := Gr.trans G4 Y4
   have bX := ((((((((((((B8.gr aZ).md M7).gr G8).md M9).kz c).gr k).md g).gr n).md i).gr G).md s).gr Q)
   refine dh 0 rfl rfl (fun w hS => Qa4 Qcn rfl (Bx.kp bX hS) rfl)<|dm 0 rfl rfl<|dh 0 rfl rfl (fun w hS => Qa4 Qak rfl (Bx.kp aY hS) rfl)<|dm 0 rfl rfl<|dm 0 rfl rfl<|dh 0 rfl rfl (fun w hS => Qfe Qfp rfl) ?_
   obtain ⟨x8, bY, hm⟩ := bnd hm
   refine qz [] rfl (eC Xeu rfl (Qgk bY)) ⟨fun _ => tk0, trivial⟩ ?_
   rintro _ dA ⟨rfl, R⟩
   have dB := R.size
   refine kG R ?_
   have bZ := (((((((((((((am.gr Y1).md M7 (Qau l)).gr G8).md M9 (Qau l)).kz c).gr k).md g (Qau l)).gr n).md i (Qau l)).gr G).md s (Qau l)).gr Q).gr R)
   obtain ⟨x9, b0, hm⟩ := bnd hm
   refine qz [] rfl (Qcy Xuq rfl rfl (Xbf b0 bZ)) ⟨fun _ => tk0, trivial⟩ ?_
   rintro _ dC ⟨S, T, U, V, W, X, rfl, B, C, D, E, ay, ag⟩
   refine kG ag ?_
   have az := (((Kp.refl ([b3]) bT).gr R).gr ag)
   refine dn 0 rfl rfl az<|dn 0 rfl rfl az ?_
   have b7 := ((((((((((((((H.gr aZ).md M7).gr G8).md M9).kz c).gr k).md g).gr n).md i).gr G).md s).gr Q).gr R).gr ag)
   refine qz [(1, b3)] rfl (Qaj Qcs rfl rfl (Qaa.cs_ones _ _ _ (Own.oneB B) (Own.oneB D)) b7 rfl rfl) ⟨fun _ => tk0, trivial⟩ ?_
   rintro _ dD ⟨a0, Z⟩
   refine kM Z ?_
   have b9 := (az.md Z)
   refine dn 0 rfl rfl b9<|Qa1<|Qag ?_
   have ca := (B.md Z (Qd7 C))
   have cb := (D.md Z (Qd7 E))
   have cc := (((((((((((I.kz c).trans k).md g).trans n).md i).trans G).md s).trans Q).trans R).trans ag).md Z)
   cases hm
   refine ⟨_, _, rfl, Qbk rfl (Qap Qcs rfl a0 rfl) (Qab rfl), ?_⟩
   exact ⟨S, T, U, V, W, X, rfl, ca, ⟨(Qbs (A := (fun x => w.heap.size ≤ x)) C)⟩, cb, ⟨(Qbs (A := (fun x => w.heap.size ≤ x)) E)⟩, ⟨(tk1 ay.o)⟩, cc⟩
 replace hm := Qyd c5 hm
 cases hm
theorem Qc0 {p0 p1 p2 bp0 vp0_0 zp0_0 gp0_0 r} (hm : Qby p0 p1 p2 = some r) {w : World} (hbp0 : Bx w bp0 223 (Qat.cs p0 vp0_0)) (g : Own w zp0_0 gp0_0 5 1 vp0_0 (p0.out.map bvc)) (j : Hdn (zp0_0 = 0 ∨ gp0_0 ≠ bp0)) :
    Calls Tryz.prog 166 [.pointer (some ⟨bp0, 0, none⟩), wv p1, .int .i64 p2].toArray w fun e w' => ∃ v, e = .returned v ∧ (∃ ub0_0 zb0_0 gb0_0, v = .tuple #[] ∧ Own w' zb0_0 gb0_0 5 1 ub0_0 (r.out.map bvc) ∧ Hdn (zb0_0 = 0 ∨ (gb0_0 = gp0_0 ∧ zp0_0 ≠ 0) ∨ w.heap.size ≤ gb0_0) ∧ Bx w' bp0 223 (Qat.cs r ub0_0) ∧ Kz [(zp0_0, gp0_0), (1, bp0)] w w') := by
 have n := g.lth
 have J := hbp0.lt
 unfold Qby at hm
 refine Qa5 26 Tryz.func166 rfl rfl rfl<|qs 3 rfl<|qm rfl<|qv rfl (Qi7 (k := .i64) (a := p2) (b := 1) rfl rfl)<|qm rfl<|Qa1 ?_
 refine Qan<|Qbj (α := Nat × Int × List (BitVec 8) × Value × Nat × Nat) ([2] ++ rg 8 18) (fun ⟨n1, a4, a5, vy6, zy6, gy6⟩ => [(2, .int .i64 a4)]) (fun ⟨n1, a4, a5, vy6, zy6, gy6⟩ wr => (Qc3 (Qh5 p1) n1 (a4, a5) = some r) ∧ Own wr zy6 gy6 5 1 vy6 (a5.map bvc) ∧ Hdn (zy6 = 0 ∨ (gy6 = gp0_0 ∧ zp0_0 ≠ 0) ∨ w.heap.size ≤ gy6) ∧ Bx wr bp0 223 (Qat.cs (Qat.mk a5) vy6) ∧ Kz [(1, bp0), (zp0_0, gp0_0)] w wr) (fun ⟨n1, a4, a5, vy6, zy6, gy6⟩ => n1) ⟨Qcw, w64 (p2 - 1), p0.out, vp0_0, zp0_0, gp0_0⟩ ?_ ?_ ?_
 · exact sbq
 · exact ⟨hm, g, ⟨tk0⟩, hbp0, Kz.refl _ _⟩
 clear hm; rintro ⟨n1, a4, a5, vy6, zy6, gy6⟩ w1 ⟨hm, h, d, f, K1⟩
 have z3 := K1.size
 have K := f.lt
 have hb := Qbv hm; clear hm; obtain ⟨n1, rfl, hm⟩ := hb
 generalize p : Qc3 (Qh5 p1) n1 = H at hm
 unfold Qh5 at hm
 try dsimp only at hm
 refine Qa3<|qs 2 rfl<|qm rfl<|qv rfl (Qee (a := a4) (b := 0) rfl rfl)<|Qa1<|cnF rfl (fun c1 => ?_) (fun c1 => ?_)
 · replace hm := iF c1 hm
   refine Qbp<|Qb4<|Qb4<|Qbq ?_
   have y := ((Kz.refl [(zp0_0, gp0_0), (1, bp0)] w).kz K1 (tk1 (tk0 : zp0_0 = 0 ∨ (gp0_0 = gp0_0 ∧ zp0_0 ≠ 0) ∨ w.heap.size ≤ gp0_0)))
   cases hm
   refine ⟨_, _, rfl, Qh6 rfl, ?_⟩
   exact ⟨vy6, zy6, gy6, rfl, h, ⟨(Qd3 (A := (fun x => (x = gp0_0 ∧ zp0_0 ≠ 0) ∨ w.heap.size ≤ x)) d tk0)⟩, f, y⟩
 replace hm := iT c1 hm
 refine qu<|Qa3<|Qan<|dw [([bp0] ++ zf zy6 gy6),([] ++ zf zy6 gy6)] [(14, [1])] (.leaf [(0,10),(1,10),(2,10),(3,10),(4,11),(5,10),(6,10),(7,10),(8,10),(9,10),(10,0),(11,0),(12,10),(13,10),(14,0)]) ?_
 intro w2 G2 L
 refine Qal<|dn 0 rfl rfl (Kp.refl ([bp0] ++ zf zy6 gy6) w2)<|dn 0 rfl rfl (Kp.refl ([bp0] ++ zf zy6 gy6) w2)<|qh 0 rfl rfl (Kp.refl ([bp0] ++ zf zy6 gy6) w2) (fun w hS => Qfg rfl rfl)<|qh 0 rfl rfl (Kp.refl ([bp0] ++ zf zy6 gy6) w2) (fun w hS => Qa0 Qqp rfl) ?_
 have B6 := (f.gr G2)
 refine qh 1 rfl rfl (Kp.refl ([] ++ zf zy6 gy6) w2) (fun w hS => Qa2 (v := vy6) Qmm rfl (Bx.kp B6 hS (tk1 (Qd2 (b := bp0) d (tk2 n.o j.o)))) rfl)<|dn 0 rfl rfl (Kp.refl ([bp0] ++ zf zy6 gy6) w2)<|dn 0 rfl rfl (Kp.refl ([bp0] ++ zf zy6 gy6) w2)<|qh 0 rfl rfl (Kp.refl ([bp0] ++ zf zy6 gy6) w2) (fun w hS => Qjl (k := .i64) (a := 8) (b := a4) rfl rfl) ?_
 obtain ⟨n7, hn7, hm⟩ := bnd hm
 refine qh 0 rfl rfl (Kp.refl ([bp0] ++ zf zy6 gy6) w2) (fun w hS => Qvy (c := p1) (b := (w64 (8 * a4))) rfl rfl hn7)<|qh 0 rfl rfl (Kp.refl ([bp0] ++ zf zy6 gy6) w2) (fun w hS => Xcp Qjx rfl)<|qz [] rfl (Qdk [(p1 >>> n7).setWidth 8] bvc Xdn rfl rfl (Qjr rfl) rfl rfl rfl) ⟨fun _ => tk0, fun _ => tk0, trivial⟩ ?_
 rintro M w3 ⟨N, I, z, G3⟩
 have z7 := G3.size
 refine kG G3 ?_
 have B9 := ((h.gr G2).gr G3)
 obtain ⟨l8, B, hm⟩ := bnd hm
 refine qz [(zy6, gy6)] rfl (Qk1 (l := a5) (m := [(p1 >>> n7).setWidth 8]) (c := bvc) Qxb rfl rfl B9 (Own.rd z) B (by decide)) ⟨fun _ => (tk1 (tk0 : zy6 = 0 ∨ (gy6 = gy6 ∧ zy6 ≠ 0) ∨ w2.heap.size ≤ gy6)), fun _ => (tk1 (tk0 : zy6 = 0 ∨ (gy6 = gy6 ∧ zy6 ≠ 0) ∨ w2.heap.size ≤ gy6)), trivial⟩ ?_
 rintro q w4 ⟨C, D, s, i, O, t⟩
 refine ⟨Kz.ofKa i, ?_⟩
 have u := (((Kp.refl ([bp0] ++ zf zy6 gy6) w2).gr G3).ka i (tk1 (tk0 : zy6 = 0 ∨ (gy6 = gy6 ∧ zy6 ≠ 0) ∨ w2.heap.size ≤ gy6)))
 refine qh 0 rfl rfl u (fun w hS => Qfg rfl rfl)<|qh 0 rfl rfl u (fun w hS => Qa0 Qqp rfl) ?_
 have E := ((B6.gr G3).ka i (tk1 (Qd2 (b := bp0) d (tk2 n.o j.o))))
 refine qz [(1, bp0)] rfl (Qe9 (cs' := Qat.cs (Qat.mk l8) q) (Qmm).siz rfl rfl (Own.oneB s) E rfl rfl) ⟨fun _ => tk0, nofun, trivial⟩ ?_
 rintro _ w5 ⟨F, M5⟩
 refine kM M5<|Qa9<|Qay<|Qaz<|qg 3 rfl<|qm rfl<|qv rfl (Qi7 (k := .i64) (a := a4) (b := 1) rfl rfl) ?_
 refine qm rfl<|Qa9 ?_
 have K_14 : Kz [(1, bp0), (zp0_0, gp0_0)] w w5 := ((((K1.gr G2).gr G3).ka i (tk1 (Qd3 (A := (fun x => (x = gp0_0 ∧ zp0_0 ≠ 0) ∨ w.heap.size ≤ x)) d tk0))).md M5)
 have G := (s.md M5 (Qvp t (Qd2 d (tk2 n.o j.o))))
 subst p
 exact ⟨rfl, ⟨n1, w64 (a4 - 1), l8, q, C, D⟩, sbq, ⟨hm, G, ⟨(Qmj (A := (fun x => (x = gp0_0 ∧ zp0_0 ≠ 0) ∨ w.heap.size ≤ x)) t (Qd3 (A := (fun x => (x = gp0_0 ∧ zp0_0 ≠ 0) ∨ w.heap.size ≤ x)) d tk0))⟩, F, K_14⟩, Nat.lt_succ_self _⟩
theorem Qjy {p0 p1 bp0 vp0_0 zp0_0 gp0_0 r} (hm : Qhe p0 p1 = some r) {w : World} (hbp0 : Bx w bp0 223 (Qat.cs p0 vp0_0)) (a : Own w zp0_0 gp0_0 5 1 vp0_0 (p0.out.map bvc)) (d : Hdn (zp0_0 = 0 ∨ gp0_0 ≠ bp0)) :
    Calls Tryz.prog 167 [.pointer (some ⟨bp0, 0, none⟩), kv p1].toArray w fun e w' => ∃ v, e = .returned v ∧ (∃ ub0_0 zb0_0 gb0_0, v = .tuple #[] ∧ Own w' zb0_0 gb0_0 5 1 ub0_0 (r.out.map bvc) ∧ Hdn (zb0_0 = 0 ∨ (gb0_0 = gp0_0 ∧ zp0_0 ≠ 0) ∨ w.heap.size ≤ gb0_0) ∧ Bx w' bp0 223 (Qat.cs r ub0_0) ∧ Kz [(zp0_0, gp0_0), (1, bp0)] w w') := by
 have f := a.lth
 have F := hbp0.lt
 unfold Qhe at hm
 refine Qa5 13 Tryz.func167 rfl rfl rfl<|qs 1 rfl<|qe rfl (Qaq (cs := kb p1) rfl rfl) ?_
 rintro _ w1 ⟨b1, rfl, E, g, G1⟩
 have z3 := G1.size
 have G := g.lt
 refine Qa1<|dw [([bp0] ++ zf zp0_0 gp0_0),([] ++ zf zp0_0 gp0_0)] [(9, [1])] (.leaf [(0,10),(1,10),(2,10),(3,10),(4,11),(5,10),(6,0),(7,10),(8,10),(9,0)]) ?_
 intro w2 G2 H
 refine Qal<|dn 0 rfl rfl (Kp.refl ([bp0] ++ zf zp0_0 gp0_0) w2)<|dn 0 rfl rfl (Kp.refl ([bp0] ++ zf zp0_0 gp0_0) w2)<|qh 0 rfl rfl (Kp.refl ([bp0] ++ zf zp0_0 gp0_0) w2) (fun w hS => Qfg rfl rfl)<|qh 0 rfl rfl (Kp.refl ([bp0] ++ zf zp0_0 gp0_0) w2) (fun w hS => Qa0 Qqp rfl) ?_
 have B5 := ((hbp0.gr G1).gr G2)
 refine qh 1 rfl rfl (Kp.refl ([] ++ zf zp0_0 gp0_0) w2) (fun w hS => Qa2 (v := vp0_0) Qmm rfl (Bx.kp B5 hS (tk1 ((tk2 f.o d.o) : zp0_0 = 0 ∨ gp0_0 ≠ bp0))) rfl) ?_
 have B6 := (g.gr G2)
 have s := Xmo (o := 0) (p := p1) B6 rfl
 refine qh 0 rfl rfl (Kp.refl ([bp0] ++ zf zp0_0 gp0_0) w2) (fun w hS => Qzw (n := 16) (l := 0) (h := 16) Tryz.underlying23 (Qcu).siz rfl rfl rfl (by decide) (by decide) (by decide)) ?_
 have B9 := ((a.gr G1).gr G2)
 obtain ⟨l1, t, hm⟩ := bnd hm
 refine qz [(zp0_0, gp0_0)] rfl (Qk1 (l := p0.out) (m := kby p1) (c := bvc) Qxb rfl rfl B9 s t (by decide)) ⟨fun _ => (tk1 (tk0 : zp0_0 = 0 ∨ (gp0_0 = gp0_0 ∧ zp0_0 ≠ 0) ∨ w2.heap.size ≤ gp0_0)), fun _ => (tk1 (tk0 : zp0_0 = 0 ∨ (gp0_0 = gp0_0 ∧ zp0_0 ≠ 0) ∨ w2.heap.size ≤ gp0_0)), trivial⟩ ?_
 rintro i w3 ⟨u, y, j, b, I, k⟩
 refine ⟨Kz.ofKa b, ?_⟩
 have q := ((Kp.refl ([bp0] ++ zf zp0_0 gp0_0) w2).ka b (tk1 (tk0 : zp0_0 = 0 ∨ (gp0_0 = gp0_0 ∧ zp0_0 ≠ 0) ∨ w2.heap.size ≤ gp0_0)))
 refine qh 0 rfl rfl q (fun w hS => Qfg rfl rfl)<|qh 0 rfl rfl q (fun w hS => Qa0 Qqp rfl) ?_
 have z := (B5.ka b (tk1 ((tk2 f.o d.o) : zp0_0 = 0 ∨ gp0_0 ≠ bp0)))
 refine qz [(1, bp0)] rfl (Qe9 (cs' := Qat.cs (Qat.mk l1) i) (Qmm).siz rfl rfl (Own.oneB j) z rfl rfl) ⟨fun _ => tk0, nofun, trivial⟩ ?_
 rintro _ w4 ⟨B, M4⟩
 refine kM M4<|Qa9 ?_
 have C := (j.md M4 (Qvp k (tk2 f.o d.o)))
 have D := (((((Kz.refl [(zp0_0, gp0_0), (1, bp0)] w).gr G1).gr G2).ka b (tk1 (tk0 : zp0_0 = 0 ∨ (gp0_0 = gp0_0 ∧ zp0_0 ≠ 0) ∨ w.heap.size ≤ gp0_0))).md M4)
 cases hm
 refine ⟨_, _, rfl, Qh6 rfl, ?_⟩
 exact ⟨i, u, y, rfl, C, ⟨(Qmj (A := (fun x => (x = gp0_0 ∧ zp0_0 ≠ 0) ∨ w.heap.size ≤ x)) k tk0)⟩, B, D⟩
theorem Qjj {p0 vp0_2 zp0_2 gp0_2 op0_2 vp0_4 zp0_4 gp0_4 op0_4 vp0_39 zp0_39 gp0_39 op0_39 r} (hm : Qoc p0 = some r) {w : World} (aJ : Rd w zp0_2 gp0_2 op0_2 18 vp0_2 (p0.Head.Items.map Qcc.cs)) (aK : Rd w zp0_4 gp0_4 op0_4 2 vp0_4 (p0.Head.Points.map Qah.cs)) (T : Rd w zp0_39 gp0_39 op0_39 1 vp0_39 (p0.Data.map bvc)) :
    Calls Tryz.prog 78 [.agg (Qai.cs p0 vp0_2 vp0_4 vp0_39).toArray].toArray w fun e w' => ∃ v, e = .returned v ∧ (∃ ur0_s zr0_s gr0_s, v = ur0_s ∧ Own w' zr0_s gr0_s 5 1 ur0_s (r.map bvc) ∧ Hdn (zr0_s = 0 ∨ w.heap.size ≤ gr0_s) ∧ Gr w w') := by
 have R := aJ.lth
 have E := aK.lth
 have H := T.lth
 unfold Qoc at hm
 refine Qa5 120 Tryz.func78 rfl rfl rfl<|qs 2 rfl<|qe rfl (Qaq (cs := Qai.cs p0 vp0_2 vp0_4 vp0_39) rfl rfl) ?_
 rintro _ w1 ⟨b1, rfl, c5, bO, G1⟩
 have de := bO.lt
 refine qm rfl<|qd 3 rfl<|qv rfl (Qas (cs := Qat.cs (Qat.mk []) (.slice none 0 0)) Xt1 rfl rfl)<|qe rfl (Qaq (cs := Qat.cs (Qat.mk []) (.slice none 0 0)) rfl rfl) ?_
 rintro _ w2 ⟨b2, rfl, c6, bP, G2⟩
 have z6 := G2.size
 have df := bP.lt
 refine qm rfl<|qd 5 rfl<|qm rfl<|qv rfl (Qa0 Qyh rfl) ?_
 have B8 := (bO.gr G2)
 refine qv rfl (Qa2 (v := bv p0.Kind) Qcu rfl B8 rfl)<|qv rfl (Qw8 Qos rfl) ?_
 obtain ⟨x1, cn, hm⟩ := bnd hm
 refine qe rfl (eC Qpj rfl (Qc0 cn bP (Qax _ 0 5 1) ⟨tk0⟩)) ?_
 rintro _ w3 ⟨bQ, I, J, rfl, ad, d, aL, K3⟩
 have z9 := K3.size
 refine Qa1<|Qa3<|qs 3 rfl<|qv rfl (Qa0 Qyh rfl) ?_
 have aM := (B8.kz K3)
 refine qv rfl (Qa2 (v := bv p0.Kind) Qcu rfl aM rfl)<|qv rfl (Qj9 (p := p0.Kind) (q := 2#8) rfl rfl)<|Qa1<|Qam rfl (fun c1 => ?_) (fun c1 => ?_)
 · replace hm := iT c1 hm
   refine qs 5 rfl<|qm rfl<|qv rfl (Qa0 Qy3 rfl)<|qv rfl (Qa2 (v := bv p0.Low) Qcu rfl aM rfl)<|qv rfl (Qw8 Qos rfl) ?_
   obtain ⟨x2, co, hm⟩ := bnd hm
   refine qe rfl (eC Qpj rfl (Qc0 co aL ad ⟨(tk1 (Qd2 (b := b2) d (.inl rfl)))⟩)) ?_
   rintro _ w4 ⟨bR, aN, aO, rfl, aP, C, bl, K4⟩
   have dg := K4.size
   refine qd 4 rfl<|qm rfl<|qv rfl (Qa0 Xc1 rfl) ?_
   have bS := (aM.kz K4 (tk1 (Qd2 (b := b1) d (.inl rfl))))
   refine qv rfl (Qa2 (v := wv p0.Number) Qb5 rfl bS rfl) ?_
   obtain ⟨x3, cp, hm⟩ := bnd hm
   refine qe rfl (eC Qpj rfl (Qc0 cp bl aP ⟨(tk1 (Qd2 (b := b2) C (Qd2 d (.inl rfl))))⟩)) ?_
   rintro _ w5 ⟨bT, aQ, aR, rfl, aS, F, bm, K5⟩
   have di := K5.size
   refine qd 6 rfl<|qm rfl<|qv rfl (Qa0 Qrp rfl) ?_
   have bU := (bS.kz K5 (tk1 (Qd2 (b := b1) C (Qd2 d (.inl rfl)))))
   refine qv rfl (Qa2 (v := vp0_39) Qmm rfl bU rfl) ?_
   have Y1 := Gr.trans G1 G2
   have bV := ((((T.gr Y1).kz K3 (tk1 (Qau (b := b2) H))).kz K4 (tk2 ((Qld (Qd3 (A := (fun x => zp0_39 = 0 ∨ x ≠ gp0_39)) d (.inl rfl) (fun x hx => (tk1 H.o)))) : zp0_39 = 0 ∨ I = 0 ∨ gp0_39 ≠ J) (Qau (b := b2) H))).kz K5 (tk2 ((Qld (Qd3 (A := (fun x => zp0_39 = 0 ∨ x ≠ gp0_39)) C (Qd3 (A := (fun x => zp0_39 = 0 ∨ x ≠ gp0_39)) d (.inl rfl) (fun x hx => (tk1 H.o))) (fun x hx => (tk1 H.o)))) : zp0_39 = 0 ∨ aN = 0 ∨ gp0_39 ≠ aO) (Qau (b := b2) H)))
   refine qv rfl (Qbi (l := p0.Data) (c := bvc) Tryz.underlying50 rfl bV)<|qv rfl (Qfe Qfp rfl) ?_
   obtain ⟨x4, cq, hm⟩ := bnd hm
   refine qe rfl (eC Qpj rfl (Qc0 cq bm aS ⟨(tk1 (Qd2 (b := b2) F (Qd2 C (Qd2 d (.inl rfl)))))⟩)) ?_
   rintro _ w6 ⟨aT, u, t, rfl, aU, K, bo, K6⟩
   have dj := K6.size
   refine Qa1<|Qa3<|dw [([] ++ zf u t)] [] (.leaf [(0,10),(1,10),(2,10),(3,10),(4,10),(5,10),(6,0),(7,10)]) ?_
   intro w7 G7 dk
   refine Qal<|dn 0 rfl rfl (Kp.refl ([] ++ zf u t) w7)<|qh 0 rfl rfl (Kp.refl ([] ++ zf u t) w7) (fun w hS => Qfg rfl rfl)<|qh 0 rfl rfl (Kp.refl ([] ++ zf u t) w7) (fun w hS => Qa0 Qqp rfl) ?_
   have cr := (bo.gr G7)
   refine qh 0 rfl rfl (Kp.refl ([] ++ zf u t) w7) (fun w hS => Qa2 (v := aT) Qmm rfl (Bx.kp cr hS (tk1 (Qd2 (b := b2) K (Qd2 F (Qd2 C (Qd2 d (.inl rfl))))))) rfl)<|qh 0 rfl rfl (Kp.refl ([] ++ zf u t) w7) (fun w hS => Qa0 Qrp rfl) ?_
   have ct := ((bU.kz K6 (tk1 (Qd2 (b := b1) F (Qd2 C (Qd2 d (.inl rfl)))))).gr G7)
   refine qh 0 rfl rfl (Kp.refl ([] ++ zf u t) w7) (fun w hS => Qa2 (v := vp0_39) Qmm rfl (Bx.kp ct hS (tk1 (Qd2 (b := b1) K (Qd2 F (Qd2 C (Qd2 d (.inl rfl))))))) rfl) ?_
   have cu := (aU.gr G7)
   have cv := ((bV.kz K6 (tk2 ((Qld (Qd3 (A := (fun x => zp0_39 = 0 ∨ x ≠ gp0_39)) F (Qd3 (A := (fun x => zp0_39 = 0 ∨ x ≠ gp0_39)) C (Qd3 (A := (fun x => zp0_39 = 0 ∨ x ≠ gp0_39)) d (.inl rfl) (fun x hx => (tk1 H.o))) (fun x hx => (tk1 H.o))) (fun x hx => (tk1 H.o)))) : zp0_39 = 0 ∨ aQ = 0 ∨ gp0_39 ≠ aR) (Qau (b := b2) H))).gr G7)
   obtain ⟨l5, cw, hm⟩ := bnd hm
   refine qz [(u, t)] rfl (Qk1 (l := x4.out) (m := p0.Data) (c := bvc) Qxb rfl rfl cu cv cw (by decide)) ⟨fun _ => (tk1 (tk0 : u = 0 ∨ (t = t ∧ u ≠ 0) ∨ w7.heap.size ≤ t)), trivial⟩ ?_
   rintro cx w8 ⟨cy, cz, cA, bp, dl, cB⟩
   refine ⟨Kz.ofKa bp, ?_⟩
   have cC := ((Kp.refl ([] ++ zf u t) w7).ka bp (tk1 (tk0 : u = 0 ∨ (t = t ∧ u ≠ 0) ∨ w7.heap.size ≤ t)))
   refine dn 0 rfl rfl cC<|qb ?_
   have cD := ((((((((Gr.refl w).trans Y1).kz K3).kz K4 (tk1 (Qd3 (A := (fun x => w.heap.size ≤ x)) d (.inl rfl)))).kz K5 (tk1 (Qd3 (A := (fun x => w.heap.size ≤ x)) C (Qd3 (A := (fun x => w.heap.size ≤ x)) d (.inl rfl))))).kz K6 (tk1 (Qd3 (A := (fun x => w.heap.size ≤ x)) F (Qd3 (A := (fun x => w.heap.size ≤ x)) C (Qd3 (A := (fun x => w.heap.size ≤ x)) d (.inl rfl)))))).trans G7).ka bp (tk1 (Qd3 (A := (fun x => w.heap.size ≤ x)) K (Qd3 (A := (fun x => w.heap.size ≤ x)) F (Qd3 (A := (fun x => w.heap.size ≤ x)) C (Qd3 (A := (fun x => w.heap.size ≤ x)) d (.inl rfl)))))))
   cases hm
   refine ⟨_, _, rfl, Qb1 rfl (Qab rfl), ?_⟩
   exact ⟨cx, cy, cz, rfl, cA, ⟨(Qmj (A := (fun x => w.heap.size ≤ x)) cB (Qd3 (A := (fun x => w.heap.size ≤ x)) K (Qd3 (A := (fun x => w.heap.size ≤ x)) F (Qd3 (A := (fun x => w.heap.size ≤ x)) C (Qd3 (A := (fun x => w.heap.size ≤ x)) d (.inl rfl))))))⟩, cD⟩
 replace hm := iF c1 hm
 refine qu<|qs 5 rfl<|qm rfl<|qv rfl (Qa0 Qqo rfl)<|qv rfl (Qa2 (v := .int .i64 p0.Epoch) Qaw rfl aM rfl) ?_
 refine qv rfl (Qfe Qfp rfl) ?_
 obtain ⟨x6, cE, hm⟩ := bnd hm
 refine qe rfl (eC Qpj rfl (Qc0 cE aL ad ⟨(tk1 (Qd2 (b := b2) d (.inl rfl)))⟩)) ?_
 rintro _ w9 ⟨bW, P, Q, rfl, aV, f, bq, K9⟩
 have dp := K9.size
 refine qd 7 rfl<|qm rfl<|qv rfl (Qa0 Qmf rfl)<|qv rfl (Qa0 Qhu rfl) ?_
 have bX := (aM.kz K9 (tk1 (Qd2 (b := b1) d (.inl rfl))))
 refine qv rfl (Qa2 (v := vp0_2) Qkf rfl bX rfl) ?_
 have Y2 := Gr.trans G1 G2
 have bY := (((aJ.gr Y2).kz K3 (tk1 (Qau (b := b2) R))).kz K9 (tk2 ((Qld (Qd3 (A := (fun x => zp0_2 = 0 ∨ x ≠ gp0_2)) d (.inl rfl) (fun x hx => (tk1 R.o)))) : zp0_2 = 0 ∨ I = 0 ∨ gp0_2 ≠ J) (Qau (b := b2) R)))
 refine qv rfl (Qbi (l := p0.Head.Items) (c := Qcc.cs) Tryz.underlying45 rfl bY)<|qv rfl (Qfe Qfp rfl) ?_
 obtain ⟨x7, cF, hm⟩ := bnd hm
 refine qe rfl (eC Qpj rfl (Qc0 cF bq aV ⟨(tk1 (Qd2 (b := b2) f (Qd2 d (.inl rfl))))⟩)) ?_
 rintro _ L ⟨ae, j, n, rfl, af, g, aY, ag⟩
 have dq := ag.size
 refine Qa1<|Qa3<|qs 5 rfl<|qv rfl (Qa0 Qmf rfl)<|qv rfl (Qa0 Qhu rfl) ?_
 have bZ := (bX.kz ag (tk1 (Qd2 (b := b1) f (Qd2 d (.inl rfl)))))
 refine qv rfl (Qa2 (v := vp0_2) Qkf rfl bZ rfl) ?_
 have b0 := (bY.kz ag (tk2 ((Qld (Qd3 (A := (fun x => zp0_2 = 0 ∨ x ≠ gp0_2)) f (Qd3 (A := (fun x => zp0_2 = 0 ∨ x ≠ gp0_2)) d (.inl rfl) (fun x hx => (tk1 R.o))) (fun x hx => (tk1 R.o)))) : zp0_2 = 0 ∨ P = 0 ∨ gp0_2 ≠ Q) (Qau (b := b2) R)))
 refine qv rfl (Qbi (l := p0.Head.Items) (c := Qcc.cs) Tryz.underlying45 rfl b0)<|qm rfl<|Qa1<|Qan ?_
 have cG := (((((Gr.refl w).trans Y2).kz K3).kz K9 (tk1 (Qd3 (A := (fun x => w.heap.size ≤ x)) d (.inl rfl)))).kz ag (tk1 (Qd3 (A := (fun x => w.heap.size ≤ x)) f (Qd3 (A := (fun x => w.heap.size ≤ x)) d (.inl rfl)))))
 have cH := ((((aK.gr Y2).kz K3 (tk1 (Qau (b := b2) E))).kz K9 (tk2 ((Qld (Qd3 (A := (fun x => zp0_4 = 0 ∨ x ≠ gp0_4)) d (.inl rfl) (fun x hx => (tk1 E.o)))) : zp0_4 = 0 ∨ I = 0 ∨ gp0_4 ≠ J) (Qau (b := b2) E))).kz ag (tk2 ((Qld (Qd3 (A := (fun x => zp0_4 = 0 ∨ x ≠ gp0_4)) f (Qd3 (A := (fun x => zp0_4 = 0 ∨ x ≠ gp0_4)) d (.inl rfl) (fun x hx => (tk1 E.o))) (fun x hx => (tk1 E.o)))) : zp0_4 = 0 ∨ P = 0 ∨ gp0_4 ≠ Q) (Qau (b := b2) E)))
 have dr := ((((T.gr Y2).kz K3 (tk1 (Qau (b := b2) H))).kz K9 (tk2 ((Qld (Qd3 (A := (fun x => zp0_39 = 0 ∨ x ≠ gp0_39)) d (.inl rfl) (fun x hx => (tk1 H.o)))) : zp0_39 = 0 ∨ I = 0 ∨ gp0_39 ≠ J) (Qau (b := b2) H))).kz ag (tk2 ((Qld (Qd3 (A := (fun x => zp0_39 = 0 ∨ x ≠ gp0_39)) f (Qd3 (A := (fun x => zp0_39 = 0 ∨ x ≠ gp0_39)) d (.inl rfl) (fun x hx => (tk1 H.o))) (fun x hx => (tk1 H.o)))) : zp0_39 = 0 ∨ P = 0 ∨ gp0_39 ≠ Q) (Qau (b := b2) H)))
 refine Qbj (α := Nat × Int × Qat × Value × Nat × Nat) ([5] ++ rg 56 21) (fun ⟨n1, U, ah, vy13, zy13, gy13⟩ => [(56, .int .i64 U)]) (fun ⟨n1, U, ah, vy13, zy13, gy13⟩ wr => (Qc3 (Qlu p0) n1 (U, ah) = some r) ∧ Own wr zy13 gy13 5 1 vy13 (ah.out.map bvc) ∧ Hdn (zy13 = 0 ∨ (gy13 = n ∧ j ≠ 0) ∨ L.heap.size ≤ gy13) ∧ Bx wr b2 223 (Qat.cs ah vy13) ∧ Kz [(1, b2), (j, n)] L wr) (fun ⟨n1, U, ah, vy13, zy13, gy13⟩ => n1) ⟨Qcw, 0, x7, ae, j, n⟩ ?_ ?_ ?_
 · exact sbq
 · exact ⟨hm, af, ⟨tk0⟩, aY, Kz.refl _ _⟩
 clear hm; rintro ⟨n1, U, ah, vy13, zy13, gy13⟩ ds ⟨hm, V, h, W, ai⟩
 have dt := ai.size
 have aW := V.lth
 have c7 := W.lt
 have hb := Qbv hm; clear hm; obtain ⟨n1, rfl, hm⟩ := hb
 generalize br : Qc3 (Qlu p0) n1 = c8 at hm
 unfold Qlu at hm
 try dsimp only at hm
 refine qs 1 rfl<|qv rfl (Qcd (a := U) (b := (p0.Head.Items.length : Int)) rfl rfl)<|Qa1<|Qa3<|Qam rfl (fun c2 => ?_) (fun c2 => ?_)
 · replace hm := iT c2 hm
   refine qu<|Qa3<|Qan<|qs 4 rfl ?_
   obtain ⟨bs, be, hm⟩ := bnd hm
   have b3 := (b0.kz ai (tk2 ((Qld (Qd3 (A := (fun x => zp0_2 = 0 ∨ x ≠ gp0_2)) g (Qd3 (A := (fun x => zp0_2 = 0 ∨ x ≠ gp0_2)) f (Qd3 (A := (fun x => zp0_2 = 0 ∨ x ≠ gp0_2)) d (.inl rfl) (fun x hx => (tk1 R.o))) (fun x hx => (tk1 R.o))) (fun x hx => (tk1 R.o)))) : zp0_2 = 0 ∨ j = 0 ∨ gp0_2 ≠ n) (Qau (b := b2) R)))
   refine qv rfl (Qf7 (i := U) Tryz.underlying45 (Qia).siz rfl b3 rfl be)<|qv rfl (Qhs Qia rfl b3 be (by first | rfl | omega))<|qe rfl (Qa8 (cs := Qcc.cs (Qcc.mk (Qaf.mk 0 0) k0)) Xdx rfl) ?_
   rintro _ du ⟨b4, rfl, cI, bf, aZ⟩
   have dv := aZ.size
   have c9 := bf.lt
   refine qe rfl (Qaj Qia rfl rfl rfl bf rfl rfl) ?_
   rintro _ dy ⟨bg, a0⟩
   have dz := a0.size
   refine qd 6 rfl<|qm rfl<|qv rfl (Qa0 Qnk rfl)<|qv rfl (Qa0 Qpd rfl)<|qv rfl (Qa2 (v := .int .i64 bs.Subset.Node) Qaw rfl bg rfl) ?_
   refine qv rfl (Qfe Qfp rfl) ?_
   have cJ := ((W.gr aZ).md a0)
   have cK := ((V.gr aZ).md a0 (Qau aW))
   obtain ⟨dA, b5, hm⟩ := bnd hm
   refine qe rfl (eC Qpj rfl (Qc0 b5 cJ cK ⟨(tk1 (Qd2 (b := b2) h (Qd2 g (Qd2 f (Qd2 d (.inl rfl))))))⟩)) ?_
   rintro _ dB ⟨bB, bC, bD, rfl, aj, G, a1, bu⟩
   have dC := bu.size
   refine qd 6 rfl<|qm rfl<|qv rfl (Qa0 Qnk rfl)<|qv rfl (Qa0 Qk7 rfl) ?_
   have b6 := (bg.kz bu (tk1 (Qau (b := b4) aW)))
   refine qv rfl (Qa2 (v := .int .i64 bs.Subset.Minus) Qaw rfl b6 rfl)<|qv rfl (Qfe Qfp rfl) ?_
   obtain ⟨dD, b7, hm⟩ := bnd hm
   refine qe rfl (eC Qpj rfl (Qc0 b7 a1 aj ⟨(tk1 (Qd2 (b := b2) G (Qd2 h (Qd2 g (Qd2 f (Qd2 d (.inl rfl)))))))⟩)) ?_
   rintro _ dE ⟨bE, bF, bG, rfl, ak, M, a2, bw⟩
   have dF := bw.size
   refine Qa1<|qg 4 rfl<|qm rfl<|qv rfl (Qa0 Xdk rfl) ?_
   have cL := (b6.kz bw (tk1 (Qd2 (b := b4) G (Qau aW))))
   refine qv rfl (Qb6 (vs := kb bs.Box) Qak rfl cL rfl rfl) ?_
   obtain ⟨cM, b8, hm⟩ := bnd hm
   refine qe rfl (eC Xgc rfl (Qjy b8 a2 ak ⟨(tk1 (Qd2 (b := b2) M (Qd2 G (Qd2 h (Qd2 g (Qd2 f (Qd2 d (.inl rfl))))))))⟩)) ?_
   rintro _ cN ⟨al, am, an, rfl, ao, ap, a3, cO⟩
   refine Qa9<|Qay<|Qaz<|qg 2 rfl<|qv rfl (Qce (k := .i64) (a := U) (b := 1) rfl rfl)<|qm rfl<|Qa9 ?_
   have K_56 : Kz [(1, b2), (j, n)] L cN := (((((ai.gr aZ).md a0).kz bu (tk1 (Qd3 (A := (fun x => (x = n ∧ j ≠ 0) ∨ L.heap.size ≤ x)) h tk0))).kz bw (tk1 (Qd3 (A := (fun x => (x = n ∧ j ≠ 0) ∨ L.heap.size ≤ x)) G (Qd3 (A := (fun x => (x = n ∧ j ≠ 0) ∨ L.heap.size ≤ x)) h tk0)))).kz cO (tk1 (Qd3 (A := (fun x => (x = n ∧ j ≠ 0) ∨ L.heap.size ≤ x)) M (Qd3 (A := (fun x => (x = n ∧ j ≠ 0) ∨ L.heap.size ≤ x)) G (Qd3 (A := (fun x => (x = n ∧ j ≠ 0) ∨ L.heap.size ≤ x)) h tk0)))))
   subst br
   exact ⟨rfl, ⟨n1, w64 (U + 1), cM, al, am, an⟩, sbq, ⟨hm, ao, ⟨(Qd3 (A := (fun x => (x = n ∧ j ≠ 0) ∨ L.heap.size ≤ x)) ap (Qd3 (A := (fun x => (x = n ∧ j ≠ 0) ∨ L.heap.size ≤ x)) M (Qd3 (A := (fun x => (x = n ∧ j ≠ 0) ∨ L.heap.size ≤ x)) G (Qd3 (A := (fun x => (x = n ∧ j ≠ 0) ∨ L.heap.size ≤ x)) h tk0))))⟩, a3, K_56⟩, Nat.lt_succ_self _⟩
 replace hm := iF c2 hm
 refine Qbp<|Qb4<|Qb4<|Qbq<|Qaz<|qs 5 rfl ?_
 refine qm rfl<|qv rfl (Qa0 Qmf rfl)<|qv rfl (Qa0 Qou rfl) ?_
 have b9 := (bZ.kz ai (tk1 (Qd2 (b := b1) g (Qd2 f (Qd2 d (.inl rfl))))))
 refine qv rfl (Qa2 (v := wv p0.Head.Base) Qb5 rfl b9 rfl) ?_
 obtain ⟨dG, ca, hm⟩ := bnd hm
 refine qe rfl (eC Qpj rfl (Qc0 ca W V ⟨(tk1 (Qd2 (b := b2) h (Qd2 g (Qd2 f (Qd2 d (.inl rfl))))))⟩)) ?_
 rintro _ dH ⟨bH, aq, ar, rfl, au, s, a4, a5⟩
 have dI := a5.size
 refine qd 7 rfl<|qm rfl<|qv rfl (Qa0 Qmf rfl)<|qv rfl (Qa0 Qgi rfl) ?_
 have cb := (b9.kz a5 (tk1 (Qd2 (b := b1) h (Qd2 g (Qd2 f (Qd2 d (.inl rfl)))))))
 refine qv rfl (Qa2 (v := vp0_4) Qix rfl cb rfl) ?_
 have cc := ((cH.kz ai (tk2 ((Qld (Qd3 (A := (fun x => zp0_4 = 0 ∨ x ≠ gp0_4)) g (Qd3 (A := (fun x => zp0_4 = 0 ∨ x ≠ gp0_4)) f (Qd3 (A := (fun x => zp0_4 = 0 ∨ x ≠ gp0_4)) d (.inl rfl) (fun x hx => (tk1 E.o))) (fun x hx => (tk1 E.o))) (fun x hx => (tk1 E.o)))) : zp0_4 = 0 ∨ j = 0 ∨ gp0_4 ≠ n) (Qau (b := b2) E))).kz a5 (tk2 ((Qld (Qd3 (A := (fun x => zp0_4 = 0 ∨ x ≠ gp0_4)) h (Qd3 (A := (fun x => zp0_4 = 0 ∨ x ≠ gp0_4)) g (Qd3 (A := (fun x => zp0_4 = 0 ∨ x ≠ gp0_4)) f (Qd3 (A := (fun x => zp0_4 = 0 ∨ x ≠ gp0_4)) d (.inl rfl) (fun x hx => (tk1 E.o))) (fun x hx => (tk1 E.o))) (fun x hx => (tk1 E.o))) (fun x hx => (tk1 E.o)))) : zp0_4 = 0 ∨ zy13 = 0 ∨ gp0_4 ≠ gy13) (Qau (b := b2) E)))
 refine qv rfl (Qbi (l := p0.Head.Points) (c := Qah.cs) Tryz.underlying46 rfl cc)<|qv rfl (Qfe Qfp rfl) ?_
 obtain ⟨cP, cd, hm⟩ := bnd hm
 refine qe rfl (eC Qpj rfl (Qc0 cd a4 au ⟨(tk1 (Qd2 (b := b2) s (Qd2 h (Qd2 g (Qd2 f (Qd2 d (.inl rfl)))))))⟩)) ?_
 rintro _ Z ⟨av, y, z, rfl, aw, B, a6, a7⟩
 have dJ := a7.size
 refine Qa1<|Qa3<|qs 5 rfl<|qv rfl (Qa0 Qmf rfl)<|qv rfl (Qa0 Qgi rfl) ?_
 have ce := (cb.kz a7 (tk1 (Qd2 (b := b1) s (Qd2 h (Qd2 g (Qd2 f (Qd2 d (.inl rfl))))))))
 refine qv rfl (Qa2 (v := vp0_4) Qix rfl ce rfl) ?_
 have cf := (cc.kz a7 (tk2 ((Qld (Qd3 (A := (fun x => zp0_4 = 0 ∨ x ≠ gp0_4)) s (Qd3 (A := (fun x => zp0_4 = 0 ∨ x ≠ gp0_4)) h (Qd3 (A := (fun x => zp0_4 = 0 ∨ x ≠ gp0_4)) g (Qd3 (A := (fun x => zp0_4 = 0 ∨ x ≠ gp0_4)) f (Qd3 (A := (fun x => zp0_4 = 0 ∨ x ≠ gp0_4)) d (.inl rfl) (fun x hx => (tk1 E.o))) (fun x hx => (tk1 E.o))) (fun x hx => (tk1 E.o))) (fun x hx => (tk1 E.o))) (fun x hx => (tk1 E.o)))) : zp0_4 = 0 ∨ aq = 0 ∨ gp0_4 ≠ ar) (Qau (b := b2) E)))
 refine qv rfl (Qbi (l := p0.Head.Points) (c := Qah.cs) Tryz.underlying46 rfl cf)<|qm rfl<|Qa1<|Qan ?_
 have cQ := (((cG.kz ai (tk1 (Qd3 (A := (fun x => w.heap.size ≤ x)) g (Qd3 (A := (fun x => w.heap.size ≤ x)) f (Qd3 (A := (fun x => w.heap.size ≤ x)) d (.inl rfl)))))).kz a5 (tk1 (Qd3 (A := (fun x => w.heap.size ≤ x)) h (Qd3 (A := (fun x => w.heap.size ≤ x)) g (Qd3 (A := (fun x => w.heap.size ≤ x)) f (Qd3 (A := (fun x => w.heap.size ≤ x)) d (.inl rfl))))))).kz a7 (tk1 (Qd3 (A := (fun x => w.heap.size ≤ x)) s (Qd3 (A := (fun x => w.heap.size ≤ x)) h (Qd3 (A := (fun x => w.heap.size ≤ x)) g (Qd3 (A := (fun x => w.heap.size ≤ x)) f (Qd3 (A := (fun x => w.heap.size ≤ x)) d (.inl rfl))))))))
 refine Qbj (α := Nat × Int × Qat × Value × Nat × Nat) ([7] ++ rg 93 13) (fun ⟨n2, aa, ax, vy25, zy25, gy25⟩ => [(93, .int .i64 aa)]) (fun ⟨n2, aa, ax, vy25, zy25, gy25⟩ wr => (Qc3 (Qm0 p0) n2 (aa, ax) = some r) ∧ Own wr zy25 gy25 5 1 vy25 (ax.out.map bvc) ∧ Hdn (zy25 = 0 ∨ (gy25 = z ∧ y ≠ 0) ∨ Z.heap.size ≤ gy25) ∧ Bx wr b2 223 (Qat.cs ax vy25) ∧ Kz [(1, b2), (y, z)] Z wr) (fun ⟨n2, aa, ax, vy25, zy25, gy25⟩ => n2) ⟨Qcw, 0, cP, av, y, z⟩ ?_ ?_ ?_
 · exact sbq
 · exact ⟨hm, aw, ⟨tk0⟩, a6, Kz.refl _ _⟩
 clear hm; rintro ⟨n2, aa, ax, vy25, zy25, gy25⟩ dK ⟨hm, ab, D, ac, aX⟩
 have dL := aX.size
 have bh := ab.lth
 have da := ac.lt
 have hb := Qbv hm; clear hm; obtain ⟨n2, rfl, hm⟩ := hb
 generalize bx : Qc3 (Qm0 p0) n2 = db at hm
 unfold Qm0 at hm
 try dsimp only at hm
 refine qs 1 rfl<|qv rfl (Qcd (a := aa) (b := (p0.Head.Points.length : Int)) rfl rfl)<|Qa1<|Qa3<|Qam rfl (fun c3 => ?_) (fun c3 => ?_)
 · replace hm := iT c3 hm
   refine qu<|Qa3<|Qan<|qs 4 rfl ?_
   obtain ⟨cg, bi, hm⟩ := bnd hm
   have ch := (cf.kz aX (tk2 ((Qld (Qd3 (A := (fun x => zp0_4 = 0 ∨ x ≠ gp0_4)) B (Qd3 (A := (fun x => zp0_4 = 0 ∨ x ≠ gp0_4)) s (Qd3 (A := (fun x => zp0_4 = 0 ∨ x ≠ gp0_4)) h (Qd3 (A := (fun x => zp0_4 = 0 ∨ x ≠ gp0_4)) g (Qd3 (A := (fun x => zp0_4 = 0 ∨ x ≠ gp0_4)) f (Qd3 (A := (fun x => zp0_4 = 0 ∨ x ≠ gp0_4)) d (.inl rfl) (fun x hx => (tk1 E.o))) (fun x hx => (tk1 E.o))) (fun x hx => (tk1 E.o))) (fun x hx => (tk1 E.o))) (fun x hx => (tk1 E.o))) (fun x hx => (tk1 E.o)))) : zp0_4 = 0 ∨ y = 0 ∨ gp0_4 ≠ z) (Qau (b := b2) E)))
   refine qv rfl (Qf7 (i := aa) Tryz.underlying46 (Qgo).siz rfl ch rfl bi)<|qv rfl (Qhs Qgo rfl ch bi (by first | rfl | omega))<|qe rfl (Qa8 (cs := Qah.cs (Qah.mk 0#64 0#64)) Xcf rfl) ?_
   rintro _ dM ⟨cR, rfl, cS, bj, a8⟩
   have dN := a8.size
   have dc := bj.lt
   refine qe rfl (Qaj Qgo rfl rfl rfl bj rfl rfl) ?_
   rintro _ dO ⟨bk, a9⟩
   have dP := a9.size
   refine qd 4 rfl<|qm rfl<|qv rfl (Qa0 Qo4 rfl)<|qv rfl (Qa2 (v := wv cg.X) Qb5 rfl bk rfl) ?_
   have cT := ((ac.gr a8).md a9)
   have cU := ((ab.gr a8).md a9 (Qau bh))
   obtain ⟨dQ, ci, hm⟩ := bnd hm
   refine qe rfl (eC Qpj rfl (Qc0 ci cT cU ⟨(tk1 (Qd2 (b := b2) D (Qd2 B (Qd2 s (Qd2 h (Qd2 g (Qd2 f (Qd2 d (.inl rfl)))))))))⟩)) ?_
   rintro _ dR ⟨bI, bJ, bK, rfl, ay, N, ba, bz⟩
   have dS := bz.size
   refine Qa1<|qg 4 rfl<|qm rfl<|qv rfl (Qa0 Qu2 rfl) ?_
   have cV := (bk.kz bz (tk1 (Qau (b := cR) bh)))
   refine qv rfl (Qa2 (v := wv cg.Y) Qb5 rfl cV rfl) ?_
   obtain ⟨cW, cj, hm⟩ := bnd hm
   refine qe rfl (eC Qpj rfl (Qc0 cj ba ay ⟨(tk1 (Qd2 (b := b2) N (Qd2 D (Qd2 B (Qd2 s (Qd2 h (Qd2 g (Qd2 f (Qd2 d (.inl rfl))))))))))⟩)) ?_
   rintro _ cX ⟨az, aA, aB, rfl, aC, aD, bb, cY⟩
   refine Qa9<|Qay<|Qaz<|qg 2 rfl<|qv rfl (Qce (k := .i64) (a := aa) (b := 1) rfl rfl)<|qm rfl<|Qa9 ?_
   have K_83 : Kz [(1, b2), (y, z)] Z cX := ((((aX.gr a8).md a9).kz bz (tk1 (Qd3 (A := (fun x => (x = z ∧ y ≠ 0) ∨ Z.heap.size ≤ x)) D tk0))).kz cY (tk1 (Qd3 (A := (fun x => (x = z ∧ y ≠ 0) ∨ Z.heap.size ≤ x)) N (Qd3 (A := (fun x => (x = z ∧ y ≠ 0) ∨ Z.heap.size ≤ x)) D tk0))))
   subst bx
   exact ⟨rfl, ⟨n2, w64 (aa + 1), cW, az, aA, aB⟩, sbq, ⟨hm, aC, ⟨(Qd3 (A := (fun x => (x = z ∧ y ≠ 0) ∨ Z.heap.size ≤ x)) aD (Qd3 (A := (fun x => (x = z ∧ y ≠ 0) ∨ Z.heap.size ≤ x)) N (Qd3 (A := (fun x => (x = z ∧ y ≠ 0) ∨ Z.heap.size ≤ x)) D tk0)))⟩, bb, K_83⟩, Nat.lt_succ_self _⟩
 replace hm := iF c3 hm
 refine Qbp<|Qb4<|Qb4<|Qbq<|Qaz<|qs 5 rfl ?_
 refine qm rfl<|qv rfl (Qa0 Qmf rfl)<|qv rfl (Qa0 Qry rfl) ?_
 have ck := (ce.kz aX (tk1 (Qd2 (b := b1) B (Qd2 s (Qd2 h (Qd2 g (Qd2 f (Qd2 d (.inl rfl)))))))))
 refine qv rfl (Qb6 (vs := kb p0.Head.Box) Qak rfl ck rfl rfl) ?_
 obtain ⟨dT, cl, hm⟩ := bnd hm
 refine qe rfl (eC Xgc rfl (Qjy cl ac ab ⟨(tk1 (Qd2 (b := b2) D (Qd2 B (Qd2 s (Qd2 h (Qd2 g (Qd2 f (Qd2 d (.inl rfl)))))))))⟩)) ?_
 rintro _ dU ⟨bL, bM, bN, rfl, aE, O, bc, bA⟩
 have dV := bA.size
 refine qd 5 rfl<|qm rfl<|qv rfl (Qa0 Qmf rfl)<|qv rfl (Qa0 Qtf rfl) ?_
 have cZ := (ck.kz bA (tk1 (Qd2 (b := b1) D (Qd2 B (Qd2 s (Qd2 h (Qd2 g (Qd2 f (Qd2 d (.inl rfl))))))))))
 refine qv rfl (Qb6 (vs := kb p0.Head.Check) Qak rfl cZ rfl rfl) ?_
 obtain ⟨dW, cm, hm⟩ := bnd hm
 refine qe rfl (eC Xgc rfl (Qjy cm bc aE ⟨(tk1 (Qd2 (b := b2) O (Qd2 D (Qd2 B (Qd2 s (Qd2 h (Qd2 g (Qd2 f (Qd2 d (.inl rfl))))))))))⟩)) ?_
 rintro _ dX ⟨S, aF, aG, rfl, aH, aI, bd, c0⟩
 refine qd 5 rfl<|qm rfl<|qv rfl (Qfg rfl rfl)<|qv rfl (Qa0 Qqp rfl)<|qv rfl (Qa2 (v := S) Qmm rfl bd rfl) ?_
 refine qm rfl<|Qa1<|Qag ?_
 have c4 := (((cQ.kz aX (tk1 (Qd3 (A := (fun x => w.heap.size ≤ x)) B (Qd3 (A := (fun x => w.heap.size ≤ x)) s (Qd3 (A := (fun x => w.heap.size ≤ x)) h (Qd3 (A := (fun x => w.heap.size ≤ x)) g (Qd3 (A := (fun x => w.heap.size ≤ x)) f (Qd3 (A := (fun x => w.heap.size ≤ x)) d (.inl rfl))))))))).kz bA (tk1 (Qd3 (A := (fun x => w.heap.size ≤ x)) D (Qd3 (A := (fun x => w.heap.size ≤ x)) B (Qd3 (A := (fun x => w.heap.size ≤ x)) s (Qd3 (A := (fun x => w.heap.size ≤ x)) h (Qd3 (A := (fun x => w.heap.size ≤ x)) g (Qd3 (A := (fun x => w.heap.size ≤ x)) f (Qd3 (A := (fun x => w.heap.size ≤ x)) d (.inl rfl)))))))))).kz c0 (tk1 (Qd3 (A := (fun x => w.heap.size ≤ x)) O (Qd3 (A := (fun x => w.heap.size ≤ x)) D (Qd3 (A := (fun x => w.heap.size ≤ x)) B (Qd3 (A := (fun x => w.heap.size ≤ x)) s (Qd3 (A := (fun x => w.heap.size ≤ x)) h (Qd3 (A := (fun x => w.heap.size ≤ x)) g (Qd3 (A := (fun x => w.heap.size ≤ x)) f (Qd3 (A := (fun x => w.heap.size ≤ x)) d (.inl rfl)))))))))))
 cases hm
 refine ⟨_, _, rfl, Qb1 rfl (Qab rfl), ?_⟩
 exact ⟨S, aF, aG, rfl, aH, ⟨(Qd3 (A := (fun x => w.heap.size ≤ x)) aI (Qd3 (A := (fun x => w.heap.size ≤ x)) O (Qd3 (A := (fun x => w.heap.size ≤ x)) D (Qd3 (A := (fun x => w.heap.size ≤ x)) B (Qd3 (A := (fun x => w.heap.size ≤ x)) s (Qd3 (A := (fun x => w.heap.size ≤ x)) h (Qd3 (A := (fun x => w.heap.size ≤ x)) g (Qd3 (A := (fun x => w.heap.size ≤ x)) f (Qd3 (A := (fun x => w.heap.size ≤ x)) d (.inl rfl))))))))))⟩, c4⟩
theorem Qzx {p0 p1 r} (hm : Qty p0 p1 = some r) {w : World} :
    Calls Tryz.prog 165 [kv p0, kv p1].toArray w fun e w' => ∃ v, e = .returned v ∧ (v = kv r ∧ Gr w w') := by
 unfold Qty at hm
 refine Qa5 23 Tryz.func165 rfl rfl rfl<|qs 3 rfl<|qe rfl (Qaq (cs := kb p0) rfl rfl) ?_
 rintro _ w1 ⟨b1, rfl, D, f, G1⟩
 have H := f.lt
 refine qe rfl (Qaq (cs := kb p1) rfl rfl) ?_
 rintro _ w2 ⟨b2, rfl, E, g, G2⟩
 have I := g.lt
 refine qe rfl (Qa8 (cs := kb k0) Qeo rfl) ?_
 rintro _ w3 ⟨b3, rfl, F, j, G3⟩
 refine Qa1<|Qa3<|qs 3 rfl ?_
 have B7 := ((f.gr G2).gr G3)
 refine qv rfl (Qa4 Qak rfl B7 rfl) ?_
 have B8 := (g.gr G3)
 refine qv rfl (Qa4 Qak rfl B8 rfl)<|qv rfl (Qv9 (cf := kb) (a := p0) (b := p1) Qqd rfl rfl rfl rfl (fun h => Qng h))<|Qa1<|Qam rfl (fun c1 => ?_) (fun c1 => ?_)
 · replace hm := iT c1 hm
   refine qs 2 rfl<|qv rfl (Qe8 Qpx)<|qe rfl (Qaj Qak rfl rfl rfl j rfl rfl) ?_
   rintro _ w4 ⟨o, M4⟩
   refine qb ?_
   have s := (((((Gr.refl w).trans G1).trans G2).trans G3).md M4)
   cases hm
   refine ⟨_, _, rfl, Qb1 rfl (Qap Qak rfl o rfl), ?_⟩
   exact ⟨rfl, s⟩
 replace hm := iF c1 hm
 refine qu<|Qa3<|qs 1 rfl<|qm rfl<|Qa1 ?_
 refine Qan ?_
 have t := ((((Gr.refl w).trans G1).trans G2).trans G3)
 refine Qbj (α := Nat × Int × W2) ([5] ++ rg 10 12) (fun ⟨n1, a3, a4⟩ => [(10, .int .i64 a3)]) (fun ⟨n1, a3, a4⟩ wr => (Qc3 (Qlr p1) n1 (a3, a4) = some r) ∧ Bx wr b1 23 (kb a4) ∧ Kz [(1, b1)] w3 wr) (fun ⟨n1, a3, a4⟩ => n1) ⟨Qcw, 0, p0⟩ ?_ ?_ ?_
 · exact sbq
 · exact ⟨hm, B7, Kz.refl _ _⟩
 clear hm; rintro ⟨n1, a3, a4⟩ w5 ⟨hm, c, K5⟩
 have hb := Qbv hm; clear hm; obtain ⟨n1, rfl, hm⟩ := hb
 generalize d : Qc3 (Qlr p1) n1 = G at hm
 unfold Qlr at hm
 try dsimp only at hm
 refine qs 1 rfl<|qv rfl (Qcd (a := a3) (b := 16) rfl rfl)<|Qa1<|Qa3<|cnF rfl (fun c2 => ?_) (fun c2 => ?_)
 · replace hm := iF c2 hm
   refine Qbp<|Qb4<|Qb4<|Qbq<|Qaz<|qs 2 rfl ?_
   refine qv rfl (Qa4 Qak rfl c rfl) ?_
   have u := (j.kz K5)
   refine qe rfl (Qaj Qak rfl rfl rfl u rfl rfl) ?_
   rintro _ w8 ⟨x, M8⟩
   refine Qa1<|Qag ?_
   have y := ((t.kz K5).md M8)
   cases hm
   refine ⟨_, _, rfl, Qb1 rfl (Qap Qak rfl x rfl), ?_⟩
   exact ⟨rfl, y⟩
 replace hm := iT c2 hm
 refine qu<|Qa3<|Qan<|qs 2 rfl<|qm rfl ?_
 refine qm rfl<|Qa1<|dw [([b1]),([])] [(8, [1])] (.leaf [(0,10),(1,10),(2,11),(3,10),(4,10),(5,10),(6,10),(7,10),(8,0)]) ?_
 intro w6 G6 J
 refine Qal<|dm 0 rfl rfl ?_
 obtain ⟨y5, l, hm⟩ := bnd hm
 refine dh 0 rfl rfl (fun w hS => Qum (i := a3) (p := a4) Tryz.underlying23 (Qcu).siz rfl rfl l) ?_
 have m := (c.gr G6)
 refine dh 1 rfl rfl (fun w hS => Xap (off := 0) (p := a4) (i := a3) Qcu rfl (Bx.kp m hS) rfl l (by omega))<|dm 0 rfl rfl ?_
 obtain ⟨y6, n, hm⟩ := bnd hm
 refine dh 0 rfl rfl (fun w hS => Qum (i := a3) (p := p1) Tryz.underlying23 (Qcu).siz rfl rfl n) ?_
 have z := ((B8.kz K5).gr G6)
 refine dh 0 rfl rfl (fun w hS => Xap (off := 0) (p := p1) (i := a3) Qcu rfl (Bx.kp z hS) rfl n (by omega))<|dh 0 rfl rfl (fun w hS => Xgx (a := y5) (b := y6) rfl rfl) ?_
 obtain ⟨y7, A, hm⟩ := bnd hm
 refine dh 0 rfl rfl (fun w hS => Qum (i := a3) (p := a4) Tryz.underlying23 (Qcu).siz rfl rfl A) ?_
 obtain ⟨x8, B, hm⟩ := bnd hm
 refine qz [(1, b1)] rfl (Xhm (off := 0) (p := a4) (q := x8) (i := a3) (cs' := kb x8) (Qcu).siz rfl rfl m rfl B rfl rfl rfl) ⟨fun _ => tk0, nofun, trivial⟩ ?_
 rintro _ w7 ⟨C, M7⟩
 refine kM M7<|Qa9<|Qay<|Qaz<|qg 2 rfl<|qv rfl (Qce (k := .i64) (a := a3) (b := 1) rfl rfl)<|qm rfl ?_
 refine Qa9 ?_
 have K_17 : Kz [(1, b1)] w3 w7 := ((K5.gr G6).md M7)
 subst d
 exact ⟨rfl, ⟨n1, w64 (a3 + 1), x8⟩, sbq, ⟨hm, C, K_17⟩, Nat.lt_succ_self _⟩
theorem Qx0 {p0 p1 p2 bp2 r} (hm : Qqj p0 p1 p2 = some r) {w : World} (hbp2 : Bx w bp2 23 (kb p2)) :
    Calls Tryz.prog 164 [kv p0, kv p1, .pointer (some ⟨bp2, 0, none⟩)].toArray w fun e w' => ∃ v, e = .returned v ∧ (v = kv r ∧ Gr w w') := by
 have m := hbp2.lt
 unfold Qqj at hm
 refine Qa5 11 Tryz.func164 rfl rfl rfl<|qs 3 rfl<|qe rfl (Qaq (cs := kb p0) rfl rfl) ?_
 rintro _ w1 ⟨b1, rfl, j, a, G1⟩
 have n := a.lt
 refine qe rfl (Qaq (cs := kb p1) rfl rfl) ?_
 rintro _ w2 ⟨b2, rfl, k, b, G2⟩
 have o := b.lt
 refine qe rfl (Qa8 (cs := kb k0) Qeo rfl) ?_
 rintro _ w3 ⟨b3, rfl, l, c, G3⟩
 refine Qa1<|Qa3<|dw [([b3])] [] (.leaf [(0,10),(1,10),(2,10),(3,0),(4,0),(5,0)]) ?_
 intro w4 G4 p
 refine Qal ?_
 have Y1 := Gr.trans (Gr.trans (Gr.trans G1 G2) G3) G4
 have B8 := (hbp2.gr Y1)
 refine dh 0 rfl rfl (fun w hS => Qa4 Qak rfl (Bx.kp B8 hS) rfl) ?_
 have Y2 := Gr.trans (Gr.trans G2 G3) G4
 have B9 := (a.gr Y2)
 refine dh 0 rfl rfl (fun w hS => Qa4 Qak rfl (Bx.kp B9 hS) rfl) ?_
 have Y3 := Gr.trans G3 G4
 have d := (b.gr Y3)
 refine dh 0 rfl rfl (fun w hS => Qa4 Qak rfl (Bx.kp d hS) rfl) ?_
 obtain ⟨x1, f, hm⟩ := bnd hm
 refine qz [] rfl (eC Xq0 rfl (Qzx f)) ⟨fun _ => tk0, trivial⟩ ?_
 rintro _ w5 ⟨rfl, G5⟩
 refine kG G5<|qz [] rfl (eC Xep rfl (Xar p2 x1 _)) ⟨fun _ => tk0, trivial⟩ ?_
 rintro _ w6 ⟨rfl, G6⟩
 refine kG G6 ?_
 have g := (((c.gr G4).gr G5).gr G6)
 refine qz [(1, b3)] rfl (Qaj Qak rfl rfl rfl g rfl rfl) ⟨fun _ => tk0, trivial⟩ ?_
 rintro _ w7 ⟨h, M7⟩
 refine kM M7<|Qa1<|Qag ?_
 have i := (((((Gr.refl w).trans Y1).trans G5).trans G6).md M7)
 cases hm
 refine ⟨_, _, rfl, Qb1 rfl (Qap Qak rfl h rfl), ?_⟩
 exact ⟨rfl, i⟩
theorem Qn3 {p0 p1 g vp1 zp1 gp1 op1 bp2_0 r} (hm : Qgj p0 p1 g = some r) {w : World} (k : Rd w zp1 gp1 op1 1 vp1 (p1.map bvc)) (hbp2_0 : Bx w bp2_0 23 (kb g)) :
    Calls Tryz.prog 163 [kv p0, vp1, .func (.func 164) [].toArray [.pointer (some ⟨bp2_0, 0, none⟩)].toArray].toArray w fun e w' => ∃ v, e = .returned v ∧ (v = kv r ∧ Gr w w') := by
 have B := k.lth
 have X := hbp2_0.lt
 unfold Qgj at hm
 refine Qa5 21 Tryz.func163 rfl rfl rfl<|qs 2 rfl<|qe rfl (Qaq (cs := kb p0) rfl rfl) ?_
 rintro _ w1 ⟨b1, rfl, R, m, G1⟩
 have Y := m.lt
 refine qe rfl (Qa8 (cs := kb k0) Qeo rfl) ?_
 rintro _ w2 ⟨b2, rfl, S, q, G2⟩
 have Z := q.lt
 refine Qa1<|Qa3<|Qan ?_
 have X7 := (((Gr.refl w).trans G1).trans G2)
 have B8 := ((k.gr G1).gr G2)
 have B9 := (m.gr G2)
 refine Qbj (α := Nat × List (BitVec 8) × W2 × Value × Nat × Nat × Nat) ([1] ++ rg 7 13) (fun ⟨n1, a4, a6, vy5, zy5, gy5, oy5⟩ => [(1, vy5)]) (fun ⟨n1, a4, a6, vy5, zy5, gy5, oy5⟩ wr => (Qc3 (Qdo g) n1 (a4, a6) = some r) ∧ Rd wr zy5 gy5 oy5 1 vy5 (a4.map bvc) ∧ Hdn (zy5 = 0 ∨ (gy5 = gp1 ∧ zp1 ≠ 0) ∨ w2.heap.size ≤ gy5) ∧ Bx wr b1 23 (kb a6) ∧ Kz [(1, b1)] w2 wr) (fun ⟨n1, a4, a6, vy5, zy5, gy5, oy5⟩ => n1) ⟨Qcw, p1, p0, vp1, zp1, gp1, op1⟩ ?_ ?_ ?_
 · exact sbq
 · exact ⟨hm, B8, ⟨tk0⟩, B9, Kz.refl _ _⟩
 clear hm; rintro ⟨n1, a4, a6, vy5, zy5, gy5, oy5⟩ w3 ⟨hm, d, i, f, K3⟩
 have aa := K3.size
 have t := d.lth
 have T := f.lt
 have hb := Qbv hm; clear hm; obtain ⟨n1, rfl, hm⟩ := hb
 generalize j : Qc3 (Qdo g) n1 = U at hm
 unfold Qdo at hm
 try dsimp only at hm
 refine Qa3<|qs 3 rfl<|qm rfl<|qv rfl (Qbi (l := a4) (c := bvc) Tryz.underlying50 rfl d)<|qv rfl (Qey (a := (a4.length : Int)) (b := 0) rfl rfl)<|Qa1 ?_
 refine cnF rfl (fun c1 => ?_) (fun c1 => ?_)
 · replace hm := iF c1 hm
   refine Qbp<|Qb4<|Qb4<|Qbq<|Qaz<|qs 2 rfl ?_
   refine qv rfl (Qa4 Qak rfl f rfl) ?_
   have C := (q.kz K3)
   refine qe rfl (Qaj Qak rfl rfl rfl C rfl rfl) ?_
   rintro _ w8 ⟨D, M8⟩
   refine Qa1<|Qag ?_
   have E := ((X7.kz K3).md M8)
   cases hm
   refine ⟨_, _, rfl, Qb1 rfl (Qap Qak rfl D rfl), ?_⟩
   exact ⟨rfl, E⟩
 replace hm := iT c1 hm
 refine qu<|Qan<|qs 1 rfl<|qe rfl (Qa8 (cs := kb k0) Qeo rfl) ?_
 rintro _ w4 ⟨b4, rfl, V, u, G4⟩
 refine qd 6 rfl<|qm rfl ?_
 have W := Xmo (o := 0) (p := k0) u rfl
 refine qv rfl (Qzw (n := 16) (l := 0) (h := 16) Tryz.underlying23 (Qcu).siz rfl rfl rfl (by decide) (by decide) (by decide))<|qm rfl ?_
 have y := (d.gr G4)
 refine qe rfl (Xjm (off := 0) (p := k0) (s := a4) (cs' := kb (ofB (Qwy (kby k0) a4))) Qxb rfl rfl u rfl y rfl rfl) ?_
 rintro _ w5 ⟨rfl, F, M5⟩
 obtain ⟨l7, G, hm⟩ := bnd hm
 have H := (y.md M5 (Qau t))
 refine qt rfl (Xi2 (P := Tryz.prog) (lo := Xfw (kby k0) a4) (hi := (a4.length : Int)) (l := a4) (c := bvc) Tryz.underlying50 (Qcu).siz rfl H ⟨_, rfl⟩ rfl G) ?_
 rintro I J K
 refine qm rfl<|Qa1<|qg 5 rfl<|qm rfl ?_
 have z := ((f.gr G4).md M5)
 refine qv rfl (Qa4 Qak rfl z rfl)<|qv rfl (Qa4 Qak rfl F rfl) ?_
 have L := (((((hbp2_0.gr G1).gr G2).kz K3).gr G4).md M5)
 obtain ⟨x8, M, hm⟩ := bnd hm
 refine qe rfl (Qcy Xqz rfl rfl (Qx0 M L)) ?_
 rintro _ w6 ⟨rfl, G6⟩
 have N := (z.gr G6)
 refine qe rfl (Qaj Qak rfl rfl rfl N rfl rfl) ?_
 rintro _ w7 ⟨O, M7⟩
 refine Qa9<|Qay ?_
 have K_27 : Kz [(1, b1)] w2 w7 := ((((K3.gr G4).md M5).gr G6).md M7)
 have Q := ((K.gr G6).md M7 (Qd2 i (Qau B)))
 subst j
 exact ⟨rfl, ⟨n1, l7, x8, I, zy5, gy5, J⟩, sbq, ⟨hm, Q, ⟨(Qd3 (A := (fun x => (x = gp1 ∧ zp1 ≠ 0) ∨ w2.heap.size ≤ x)) i tk0)⟩, O, K_27⟩, Nat.lt_succ_self _⟩
theorem Qgt {p0 p1 vp1 zp1 gp1 op1 r} (hm : Qok p0 p1 = some r) {w : World} (f : Rd w zp1 gp1 op1 1 vp1 (p1.map bvc)) :
    Calls Tryz.prog 77 [kv p0, vp1].toArray w fun e w' => ∃ v, e = .returned v ∧ (v = .tuple [kv r.1, .int .i64 r.2].toArray ∧ Gr w w') := by
 have h := f.lth
 unfold Qok at hm
 refine Qa5 20 Tryz.func77 rfl rfl rfl<|qs 3 rfl<|qe rfl (Qaq (cs := kb p0) rfl rfl) ?_
 rintro _ w1 ⟨b1, rfl, t, g, G1⟩
 have y := g.lt
 refine qe rfl (Qa8 (cs := kb k0) Qeo rfl) ?_
 rintro _ w2 ⟨b2, rfl, u, d, G2⟩
 have z := d.lt
 refine qm rfl<|Qa1<|Qa3<|qs 3 rfl<|qm rfl ?_
 have B6 := ((f.gr G1).gr G2)
 refine qv rfl (Qbi (l := p1) (c := bvc) Tryz.underlying50 rfl B6)<|qv rfl (Qey (a := (p1.length : Int)) (b := 16384) rfl rfl)<|Qa1<|Qam rfl (fun c1 => ?_) (fun c1 => ?_)
 · replace hm := iT c1 hm
   refine qs 3 rfl<|qv rfl (Qe8 Qpx)<|qe rfl (Qaj Qak rfl rfl rfl d rfl rfl) ?_
   rintro _ w3 ⟨i, M3⟩
   refine qm rfl<|qb ?_
   have X8 := ((((Gr.refl w).trans G1).trans G2).md M3)
   cases hm
   refine ⟨_, _, rfl, Qbk rfl (Qap Qak rfl i rfl) (Qab rfl), ?_⟩
   exact ⟨rfl, X8⟩
 replace hm := iF c1 hm
 refine qu<|qs 7 rfl ?_
 have B9 := (g.gr G2)
 refine qv rfl (Qa4 Qak rfl B9 rfl)<|qm rfl<|qv rfl (Qbi (l := p1) (c := bvc) Tryz.underlying50 rfl B6)<|qv rfl (Qfe Qfp rfl)<|qe rfl (eC Qpe rfl (Qes p0 (un8 2#8) (Qiy _) (Qiw _) (wd (p1.length : Int)) _)) ?_
 rintro _ w4 ⟨rfl, G4⟩
 have A := G4.size
 refine qe rfl (Qa8 (cs := kb k0) Qeo rfl) ?_
 rintro _ w5 ⟨b5, rfl, x, j, G5⟩
 refine qe rfl (Qaj Qak rfl rfl rfl j rfl rfl) ?_
 rintro _ w6 ⟨k, M6⟩
 refine qd 6 rfl<|qv rfl (Qa4 Qak rfl k rfl)<|qm rfl<|qv rfl (Qfb rfl rfl) ?_
 have Y1 := Gr.trans G4 G5
 have m := ((B6.gr Y1).md M6 (Qau h))
 have n := ((B9.gr Y1).md M6)
 obtain ⟨x1, o, hm⟩ := bnd hm
 refine qe rfl (eC Xs7 rfl (Qn3 o m n)) ?_
 rintro _ w7 ⟨rfl, G7⟩
 have p := (((d.gr Y1).md M6).gr G7)
 refine qe rfl (Qaj Qak rfl rfl rfl p rfl rfl) ?_
 rintro _ w8 ⟨q, M8⟩
 refine qm rfl<|Qa1<|Qag ?_
 have s := (((((((Gr.refl w).trans G1).trans G2).trans Y1).md M6).trans G7).md M8)
 cases hm
 refine ⟨_, _, rfl, Qbk rfl (Qap Qak rfl q rfl) (Qab rfl), ?_⟩
 exact ⟨rfl, s⟩
theorem Qq6 {p0 p1 vp1_2 zp1_2 gp1_2 op1_2 vp1_4 zp1_4 gp1_4 op1_4 vp1_39 zp1_39 gp1_39 op1_39 r} (hm : Qk8 p0 p1 = some r) {w : World} (c : Rd w zp1_2 gp1_2 op1_2 18 vp1_2 (p1.Head.Items.map Qcc.cs)) (d : Rd w zp1_4 gp1_4 op1_4 2 vp1_4 (p1.Head.Points.map Qah.cs)) (a : Rd w zp1_39 gp1_39 op1_39 1 vp1_39 (p1.Data.map bvc)) :
    Calls Tryz.prog 74 [kv p0, .agg (Qai.cs p1 vp1_2 vp1_4 vp1_39).toArray].toArray w fun e w' => ∃ v, e = .returned v ∧ (v = kv r ∧ Gr w w') := by
 unfold Qk8 at hm
 refine Qa5 19 Tryz.func74 rfl rfl rfl<|qs 3 rfl<|qe rfl (Qaq (cs := kb p0) rfl rfl) ?_
 rintro _ w1 ⟨b1, rfl, aQ, L, G1⟩
 have aT := L.lt
 refine qe rfl (Qaq (cs := Qai.cs p1 vp1_2 vp1_4 vp1_39) rfl rfl) ?_
 rintro _ w2 ⟨b2, rfl, aR, M, G2⟩
 have aU := M.lt
 refine qe rfl (Qa8 (cs := kb k0) Qeo rfl) ?_
 rintro _ w3 ⟨b3, rfl, aS, ae, G3⟩
 refine Qa1 ?_
 have Y1 := Gr.trans (Gr.trans G1 G2) G3
 have af := ((Gr.refl w).trans Y1)
 refine qj (β := W2 × Nat) (rg 5 13) (fun ⟨a2, bq1⟩ => [(5, .pointer (some ⟨bq1, 0, none⟩))]) (fun ⟨a2, bq1⟩ wr => (Qlh a2 = some r) ∧ Bx wr bq1 23 (kb a2) ∧ w3.heap.size ≤ bq1 ∧ Kz [] w3 wr) ?_ ?_
 · refine dw [([])] [] (.fork [(0,10),(1,10),(2,10),(3,10),(5,10)] (.fork [(4,0)] (.fork [(6,0)] (.leaf [(7,0),(8,10),(9,10),(10,10),(11,0),(12,0),(13,10)]) (.leaf [(11,0),(7,0),(8,10),(9,10),(10,10),(12,0),(13,10)])) (.leaf [(11,0),(6,0),(7,0),(8,10),(9,10),(10,10),(12,0),(13,10)])) (.leaf [(11,0),(4,0),(6,0),(7,0),(8,10),(9,10),(10,10),(12,0),(13,10)])) ?_
   intro w6 G6 aV
   refine Qbc ?_
   have Y2 := Gr.trans (Gr.trans G2 G3) G6
   have ag := (L.gr Y2)
   refine dh 0 rfl rfl (fun w hS => Qa4 Qak rfl (Bx.kp ag hS) rfl)<|dh 0 rfl rfl (fun w hS => Qa0 Qqo rfl) ?_
   have Y3 := Gr.trans G3 G6
   have N := (M.gr Y3)
   refine dh 0 rfl rfl (fun w hS => Qa2 (v := .int .i64 p1.Epoch) Qaw rfl (Bx.kp N hS) rfl)<|dh 0 rfl rfl (fun w hS => Qfe Qfp rfl)<|dh 0 rfl rfl (fun w hS => Qa4 Qcr rfl (Bx.kp N hS) rfl)<|Qbt ?_ ?_
   · refine Qbc<|qz [] rfl (eC Qpe rfl (Qes p0 (un8 52#8) (Qiy _) (Qiw _) (wd p1.Epoch) _)) ⟨fun _ => tk0, trivial⟩ ?_
     rintro _ w7 ⟨rfl, G7⟩
     have aW := G7.size
     refine kG G7<|Qbt ?_ ?_
     · refine Qbc ?_
       have Y4 := Gr.trans (Gr.trans Y1 G6) G7
       have ah := (c.gr Y4)
       have ai := (d.gr Y4)
       have aj := (a.gr Y4)
       obtain ⟨x3, ak, hm⟩ := bnd hm
       refine qz [] rfl (eC Xf1 rfl (Qjj ak ah ai aj)) ⟨fun _ => tk0, trivial⟩ ?_
       rintro O w8 ⟨_, P, Q, rfl, b, R, G8⟩
       have aX := G8.size
       refine kG G8<|Qbt ?_ ?_
       · refine Qal ?_
         obtain ⟨x4, al, hm⟩ := bnd hm
         refine qz [] rfl (eC Qzi rfl (Qgt al (Own.rd b))) ⟨fun _ => tk0, trivial⟩ ?_
         rintro _ w9 ⟨rfl, G9⟩
         have aY := G9.size
         refine kG G9 ?_
         have h := ((((Kp.refl ([]) w6).gr G7).gr G8).gr G9)
         refine dn 0 rfl rfl h<|dn 0 rfl rfl h<|dn 0 rfl rfl h<|qz [] rfl (Qa8 (cs := kb k0) Qeo rfl) ⟨fun _ => tk0, trivial⟩ ?_
         rintro _ aZ ⟨S, rfl, am, T, m⟩
         refine kG m<|qz [(1, S)] rfl (Qaj Qak rfl rfl rfl T rfl rfl) ⟨fun _ => tk0, trivial⟩ ?_
         rintro _ a0 ⟨U, n⟩
         refine kM n ?_
         have an := ((h.gr m).md n)
         refine dn 0 rfl rfl an<|Qa9 ?_
         exact ⟨rfl, ⟨x4.1, S⟩, sbq, hm, U, (by omega), ((((((kz0.gr G6).gr G7).gr G8).gr G9).gr m).md n)⟩
       refine Qal<|qz [] rfl (Qa8 (cs := kb k0) Qeo rfl) ⟨fun _ => tk0, trivial⟩ ?_
       rintro _ a1 ⟨V, rfl, ao, W, o⟩
       refine kG o ?_
       have ap := (b.gr o)
       obtain ⟨x5, aq, hm⟩ := bnd hm
       refine qz [] rfl (eC Qzi rfl (Qgt aq (Own.rd ap))) ⟨fun _ => tk0, trivial⟩ ?_
       rintro _ a3 ⟨rfl, p⟩
       refine kG p ?_
       have Y5 := Gr.trans (Gr.trans (Gr.trans G7 G8) o) p
       have i := ((Kp.refl ([]) w6).gr Y5)
       refine dn 0 rfl rfl i<|dn 0 rfl rfl i<|dn 0 rfl rfl i ?_
       have ar := (W.gr p)
       refine qz [(1, V)] rfl (Qaj Qak rfl rfl rfl ar rfl rfl) ⟨fun _ => tk0, trivial⟩ ?_
       rintro _ a4 ⟨X, q⟩
       refine kM q ?_
       have au := (i.md q)
       refine dn 0 rfl rfl au<|Qa9 ?_
       exact ⟨rfl, ⟨x5.1, V⟩, sbq, hm, X, (by omega), (((kz0.gr G6).gr Y5).md q)⟩
     refine Qal<|qz [] rfl (Qa8 (cs := kb k0) Qeo rfl) ⟨fun _ => tk0, trivial⟩ ?_
     rintro _ a5 ⟨Y, rfl, av, Z, s⟩
     refine kG s ?_
     have Y6 := Gr.trans (Gr.trans (Gr.trans Y1 G6) G7) s
     have aw := (c.gr Y6)
     have ax := (d.gr Y6)
     have ay := (a.gr Y6)
     obtain ⟨x6, az, hm⟩ := bnd hm
     refine qz [] rfl (eC Xf1 rfl (Qjj az aw ax ay)) ⟨fun _ => tk0, trivial⟩ ?_
     rintro D a6 ⟨_, E, F, rfl, f, G, t⟩
     refine kG t ?_
     obtain ⟨x7, aA, hm⟩ := bnd hm
     refine qz [] rfl (eC Qzi rfl (Qgt aA (Own.rd f))) ⟨fun _ => tk0, trivial⟩ ?_
     rintro _ a7 ⟨rfl, u⟩
     refine kG u ?_
     have Y7 := Gr.trans (Gr.trans (Gr.trans G7 s) t) u
     have j := ((Kp.refl ([]) w6).gr Y7)
     refine dn 0 rfl rfl j<|dn 0 rfl rfl j<|dn 0 rfl rfl j ?_
     have aB := ((Z.gr t).gr u)
     refine qz [(1, Y)] rfl (Qaj Qak rfl rfl rfl aB rfl rfl) ⟨fun _ => tk0, trivial⟩ ?_
     rintro _ a8 ⟨aa, x⟩
     refine kM x ?_
     have aC := (j.md x)
     refine dn 0 rfl rfl aC<|Qa9 ?_
     exact ⟨rfl, ⟨x7.1, Y⟩, sbq, hm, aa, (by omega), (((kz0.gr G6).gr Y7).md x)⟩
   refine Qal<|qz [] rfl (Qa8 (cs := kb k0) Qeo rfl) ⟨fun _ => tk0, trivial⟩ ?_
   rintro _ a9 ⟨ab, rfl, aD, ac, y⟩
   refine kG y<|qz [] rfl (eC Qpe rfl (Qes p0 (un8 52#8) (Qiy _) (Qiw _) (wd p1.Epoch) _)) ⟨fun _ => tk0, trivial⟩ ?_
   rintro _ ba ⟨rfl, k⟩
   refine kG k ?_
   have Y8 := Gr.trans (Gr.trans (Gr.trans Y1 G6) y) k
   have aE := (c.gr Y8)
   have aF := (d.gr Y8)
   have aG := (a.gr Y8)
   obtain ⟨x8, aH, hm⟩ := bnd hm
   refine qz [] rfl (eC Xf1 rfl (Qjj aH aE aF aG)) ⟨fun _ => tk0, trivial⟩ ?_
   rintro H bb ⟨_, I, J, rfl, g, K, z⟩
   refine kG z ?_
   obtain ⟨x9, aI, hm⟩ := bnd hm
   refine qz [] rfl (eC Qzi rfl (Qgt aI (Own.rd g))) ⟨fun _ => tk0, trivial⟩ ?_
   rintro _ bc ⟨rfl, A⟩
   refine kG A ?_
   have Y9 := Gr.trans (Gr.trans (Gr.trans y k) z) A
   have l := ((Kp.refl ([]) w6).gr Y9)
   refine dn 0 rfl rfl l<|dn 0 rfl rfl l<|dn 0 rfl rfl l ?_
   have aJ := Gr.trans (Gr.trans k z) A
   have aK := (ac.gr aJ)
   refine qz [(1, ab)] rfl (Qaj Qak rfl rfl rfl aK rfl rfl) ⟨fun _ => tk0, trivial⟩ ?_
   rintro _ bd ⟨ad, B⟩
   refine kM B ?_
   have aL := (l.md B)
   refine dn 0 rfl rfl aL<|Qa9 ?_
   exact ⟨rfl, ⟨x9.1, ab⟩, sbq, hm, ad, (by omega), (((kz0.gr G6).gr Y9).md B)⟩
 clear hm; rintro ⟨a2, bq1⟩ w4 ⟨hm, C, aM, K4⟩
 unfold Qlh at hm
 refine qs 2 rfl<|qv rfl (Qa4 Qak rfl C rfl) ?_
 have aN := (ae.kz K4)
 refine qe rfl (Qaj Qak rfl rfl rfl aN rfl rfl) ?_
 rintro _ w5 ⟨aO, M5⟩
 refine Qa1<|Qag ?_
 have aP := ((af.kz K4).md M5)
 cases hm
 refine ⟨_, _, rfl, Qb1 rfl (Qap Qak rfl aO rfl), ?_⟩
 exact ⟨rfl, aP⟩
theorem Qgw {p0 p1 p2 p3 vp3 zp3 gp3 op3 r} (hm : Qo9 p0 p1 p2 p3 = some r) {w : World} (Q : Rd w zp3 gp3 op3 1 vp3 (p3.map ic)) :
    Calls Tryz.prog 29 [kv p0, .agg (Qa7.cs p1).toArray, .int .i64 p2, vp3].toArray w fun e w' => ∃ v, e = .returned v ∧ (∃ ur0_2 zr0_2 gr0_2 ur0_4 zr0_4 gr0_4 ur0_39 zr0_39 gr0_39, v = .tuple [.agg (Qai.cs r.1 ur0_2 ur0_4 ur0_39).toArray, .int .i64 r.2].toArray ∧ Own w' zr0_2 gr0_2 133 18 ur0_2 (r.1.Head.Items.map Qcc.cs) ∧ Hdn (zr0_2 = 0 ∨ w.heap.size ≤ gr0_2) ∧ Own w' zr0_4 gr0_4 31 2 ur0_4 (r.1.Head.Points.map Qah.cs) ∧ Hdn (zr0_4 = 0 ∨ w.heap.size ≤ gr0_4) ∧ Own w' zr0_39 gr0_39 5 1 ur0_39 (r.1.Data.map bvc) ∧ Hdn (zr0_39 = 0 ∨ w.heap.size ≤ gr0_39) ∧ Hdn (zr0_4 = 0 ∨ zr0_2 = 0 ∨ gr0_4 ≠ gr0_2) ∧ Hdn (zr0_39 = 0 ∨ zr0_2 = 0 ∨ gr0_39 ≠ gr0_2) ∧ Hdn (zr0_39 = 0 ∨ zr0_4 = 0 ∨ gr0_39 ≠ gr0_4) ∧ Gr w w') := by
 unfold Qo9 at hm
 refine Qa5 35 Tryz.func29 rfl rfl rfl<|qs 4 rfl<|qe rfl (Qaq (cs := kb p0) rfl rfl) ?_
 rintro _ w1 ⟨b1, rfl, aj, B, G1⟩
 have aq := B.lt
 refine qe rfl (Qaq (cs := Qa7.cs p1) rfl rfl) ?_
 rintro _ w2 ⟨b2, rfl, ak, C, G2⟩
 have ar := C.lt
 refine qe rfl (Qa8 (cs := Qai.cs (Qai.mk 0#8 0 (Qaa.mk [] 0#64 [] k0 k0) 0#8 0#64 [] k0) (.slice none 0 0) (.slice none 0 0) (.slice none 0 0)) Qm4 rfl) ?_
 rintro _ w3 ⟨b3, rfl, al, t, G3⟩
 have au := t.lt
 refine qm rfl<|qd 11 rfl ?_
 have Y1 := Gr.trans G2 G3
 have B8 := (B.gr Y1)
 refine qv rfl (Qa4 Qak rfl B8 rfl) ?_
 have B9 := (C.gr G3)
 refine qv rfl (Qa4 Qcn rfl B9 rfl)<|qm rfl<|qm rfl ?_
 have R := ((Q.gr G1).gr Y1)
 obtain ⟨x1, S, hm⟩ := bnd hm
 refine qe rfl (eC Xsp rfl (Qup S R)) ?_
 rintro _ w4 ⟨c, k, l, d, m, n, rfl, f, g, h, i, D, G4⟩
 have av := G4.size
 have p := f.lth
 have q := h.lth
 refine qm rfl<|qm rfl<|qm rfl<|qe rfl (Qa8 (cs := Qaa.cs (Qaa.mk [] 0#64 [] k0 k0) (.slice none 0 0) (.slice none 0 0)) Quy rfl) ?_
 rintro _ w5 ⟨b5, rfl, am, E, G5⟩
 have an := E.lt
 have F := (f.gr G5)
 have G := (h.gr G5)
 refine qe rfl (Qaj Qcs rfl rfl (Qaa.cs_ones _ _ _ (Own.oneB F) (Own.oneB G)) E rfl rfl) ?_
 rintro _ w6 ⟨T, M6⟩
 have aw := M6.size
 refine qm rfl<|Qa1<|Qa3<|qs 2 rfl<|qm rfl<|qv rfl (Qc2 (a := x1.2) (b := 0) rfl rfl) ?_
 refine Qa1<|Qam rfl (fun c1 => ?_) (fun c1 => ?_)
 · replace hm := iT c1 hm
   refine qs 4 rfl<|qv rfl (Qas (cs := Qai.cs (Qai.mk 0#8 0 (Qaa.mk [] 0#64 [] k0 k0) 0#8 0#64 [] k0) (.slice none 0 0) (.slice none 0 0) (.slice none 0 0)) Xek rfl (by kernel_rfl))<|qm rfl ?_
   have Y2 := Gr.trans G4 G5
   have U := ((t.gr Y2).md M6)
   refine qe rfl (Qaj Qcr rfl rfl (Qai.cs_ones _ _ _ _ rfl rfl rfl) U rfl rfl) ?_
   rintro _ w7 ⟨V, M7⟩
   refine qm rfl<|qb ?_
   have W := ((((((Gr.refl w).trans G1).trans Y1).trans Y2).md M6).md M7)
   cases hm
   refine ⟨_, _, rfl, Qbk rfl (Qap Qcr rfl V rfl) (Qab rfl), ?_⟩
   exact ⟨(.slice none 0 0), 0, 0, (.slice none 0 0), 0, 0, (.slice none 0 0), 0, 0, rfl, (Qax _ 0 133 18), ⟨.inl rfl⟩, (Qax _ 0 31 2), ⟨.inl rfl⟩, (Qax _ 0 5 1), ⟨.inl rfl⟩, ⟨(.inl rfl)⟩, ⟨(.inl rfl)⟩, ⟨(.inl rfl)⟩, W⟩
 replace hm := iF c1 hm
 refine qu<|qs 5 rfl<|qm rfl<|qv rfl (Qa4 Qcs rfl T rfl)<|qv rfl (Qas (cs := Qai.cs (Qai.mk 1#8 p2 x1.1 0#8 0#64 [] k0) c d (.slice none 0 0)) Xek rfl (Qk4 rfl rfl rfl (Qk4 rfl rfl rfl (Qk4 rfl rfl rfl (by kernel_rfl))))) ?_
 refine qe rfl (Qa8 (cs := Qai.cs (Qai.mk 0#8 0 (Qaa.mk [] 0#64 [] k0 k0) 0#8 0#64 [] k0) (.slice none 0 0) (.slice none 0 0) (.slice none 0 0)) Qm4 rfl) ?_
 rintro _ w8 ⟨b8, rfl, ao, X, G8⟩
 have H := ((F.md M6 (Qau p)).gr G8)
 have I := ((G.md M6 (Qau q)).gr G8)
 refine qe rfl (Qaj Qcr rfl rfl (Qai.cs_ones _ _ _ _ (Own.oneB H) (Own.oneB I) rfl) X rfl rfl) ?_
 rintro _ w9 ⟨Y, M9⟩
 refine Qa1<|Qa3<|dw [([b8]),([])] [(6, [1])] (.leaf [(0,10),(1,10),(3,11),(2,0),(4,0),(5,10),(6,0)]) ?_
 intro Z u ap
 refine Qal ?_
 have Y3 := Gr.trans G4 G5
 have aa := (((((B8.gr Y3).md M6).gr G8).md M9).gr u)
 refine dh 0 rfl rfl (fun w hS => Qa4 Qak rfl (Bx.kp aa hS) rfl)<|dm 0 rfl rfl ?_
 have J := (Y.gr u)
 refine dh 1 rfl rfl (fun w hS => Qa4 Qcr rfl (Bx.kp J hS) rfl) ?_
 obtain ⟨x2, ab, hm⟩ := bnd hm
 refine qz [] rfl (eC Xeu rfl (Qgk ab)) ⟨fun _ => tk0, fun _ => tk0, trivial⟩ ?_
 rintro _ ax ⟨rfl, y⟩
 refine kG y ?_
 have Y4 := Gr.trans u y
 have K := ((H.md M9 (Qau p)).gr Y4)
 have L := ((I.md M9 (Qau q)).gr Y4)
 obtain ⟨x3, ac, hm⟩ := bnd hm
 refine qz [] rfl (eC Xt5 rfl (Qq6 ac (Own.rd K) (Own.rd L) (Own.rd (Qax _ 0 5 1)))) ⟨fun _ => tk0, fun _ => tk0, trivial⟩ ?_
 rintro _ ay ⟨rfl, j⟩
 refine kG j ?_
 have Y5 := Gr.trans y j
 have ad := ((Kp.refl ([b8]) Z).gr Y5)
 refine qh 0 rfl rfl ad (fun w hS => Qa0 Qye rfl) ?_
 have ae := (J.gr Y5)
 refine qz [(1, b8)] rfl (Qvz (cs' := Qai.cs (Qai.mk 1#8 p2 x1.1 0#8 0#64 [] x3) c d (.slice none 0 0)) (vs := kb x3) (Qak).siz rfl rfl rfl rfl rfl ae rfl rfl) ⟨fun _ => tk0, nofun, trivial⟩ ?_
 rintro _ az ⟨M, s⟩
 refine kM s<|qd 3 rfl<|qv rfl (Qa4 Qcr rfl M rfl) ?_
 have af := (((((((t.gr Y3).md M6).gr G8).md M9).gr Y4).gr j).md s)
 have N := ((K.gr j).md s (Qau p))
 have O := ((L.gr j).md s (Qau q))
 refine qe rfl (Qaj Qcr rfl rfl (Qai.cs_ones _ _ _ _ (Own.oneB N) (Own.oneB O) rfl) af rfl rfl) ?_
 rintro _ aA ⟨P, z⟩
 refine qm rfl<|Qa1<|Qag ?_
 have ag := (N.md z (Qd7 g))
 have ah := (O.md z (Qd7 i))
 have ai := (((((((((((Gr.refl w).trans G1).trans Y1).trans Y3).md M6).trans G8).md M9).trans Y4).trans j).md s).md z)
 cases hm
 refine ⟨_, _, rfl, Qbk rfl (Qap Qcr rfl P rfl) (Qab rfl), ?_⟩
 exact ⟨c, k, l, d, m, n, (.slice none 0 0), 0, 0, rfl, ag, ⟨(Qbs (A := (fun x => w.heap.size ≤ x)) g)⟩, ah, ⟨(Qbs (A := (fun x => w.heap.size ≤ x)) i)⟩, (Qax _ 0 5 1), ⟨.inl rfl⟩, ⟨(tk1 D.o)⟩, ⟨(.inl rfl)⟩, ⟨(.inl rfl)⟩, ai⟩
theorem Qn5 {p0 p1 r} (hm : Qr0 p0 p1 = some r) {w : World} :
    Calls Tryz.prog 17 [kv p0, .int .i64 p1].toArray w fun e w' => ∃ v, e = .returned v ∧ (v = kv r ∧ Gr w w') := by
 unfold Qr0 at hm
 refine Qa5 9 Tryz.func17 rfl rfl rfl<|qs 2 rfl<|qe rfl (Qaq (cs := kb p0) rfl rfl) ?_
 rintro _ w1 ⟨b1, rfl, d, a, G1⟩
 have g := a.lt
 refine qe rfl (Qa8 (cs := kb k0) Qeo rfl) ?_
 rintro _ w2 ⟨b2, rfl, f, b, G2⟩
 refine qd 5 rfl ?_
 have B5 := (a.gr G2)
 refine qv rfl (Qa4 Qak rfl B5 rfl)<|qm rfl<|qv rfl (Qfe Qfp rfl)<|qe rfl (eC Qpe rfl (Qes p0 (un8 51#8) (Qiy _) (Qiw _) (wd p1) _)) ?_
 rintro _ w3 ⟨rfl, G3⟩
 have B7 := (b.gr G3)
 refine qe rfl (Qaj Qak rfl rfl rfl B7 rfl rfl) ?_
 rintro _ w4 ⟨c, M4⟩
 refine Qa1<|Qag ?_
 have X9 := (((((Gr.refl w).trans G1).trans G2).trans G3).md M4)
 cases hm
 refine ⟨_, _, rfl, Qb1 rfl (Qap Qak rfl c rfl), ?_⟩
 exact ⟨rfl, X9⟩
theorem Qs8 {p0 r} (hm : Qkr p0 = some r) {w : World} :
    Calls Tryz.prog 178 [.agg (Qb0.cs p0).toArray].toArray w fun e w' => ∃ v, e = .returned v ∧ (v = kv r ∧ Gr w w') := by
 unfold Qkr at hm
 refine Qa5 29 Tryz.func178 rfl rfl rfl<|qs 2 rfl<|qe rfl (Qaq (cs := Qb0.cs p0) rfl rfl) ?_
 rintro _ w1 ⟨b1, rfl, F, h, G1⟩
 have J := h.lt
 refine qe rfl (Qa8 (cs := kb k0) Qeo rfl) ?_
 rintro _ w2 ⟨b2, rfl, G, j, G2⟩
 have K := j.lt
 refine qd 1 rfl<|qe rfl (Qa8 (cs := kb k0) Qeo rfl) ?_
 rintro _ w3 ⟨b3, rfl, H, n, G3⟩
 refine Qa1<|Qa3<|qs 1 rfl<|qm rfl<|Qa1<|Qan ?_
 have X7 := ((((Gr.refl w).trans G1).trans G2).trans G3)
 refine Qbj (α := Nat × Int × W2) (rg 4 24) (fun ⟨n1, a3, a4⟩ => [(5, .int .i64 a3)]) (fun ⟨n1, a3, a4⟩ wr => (Qc3 (Qgf p0) n1 (a3, a4) = some r) ∧ Bx wr b3 23 (kb a4) ∧ Kz [(1, b3)] w3 wr) (fun ⟨n1, a3, a4⟩ => n1) ⟨Qcw, 0, k0⟩ ?_ ?_ ?_
 · exact sbq
 · exact ⟨hm, n, Kz.refl _ _⟩
 clear hm; rintro ⟨n1, a3, a4⟩ w4 ⟨hm, d, K4⟩
 have hb := Qbv hm; clear hm; obtain ⟨n1, rfl, hm⟩ := hb
 generalize f : Qc3 (Qgf p0) n1 = I at hm
 unfold Qgf at hm
 try dsimp only at hm
 refine qs 1 rfl<|qv rfl (Qcd (a := a3) (b := 8) rfl rfl)<|Qa1<|Qa3<|cnF rfl (fun c1 => ?_) (fun c1 => ?_)
 · replace hm := iF c1 hm
   refine Qbp<|Qb4<|Qb4<|Qbq<|Qaz<|qs 2 rfl ?_
   refine qv rfl (Qa4 Qak rfl d rfl) ?_
   have o := ((j.gr G3).kz K4)
   refine qe rfl (Qaj Qak rfl rfl rfl o rfl rfl) ?_
   rintro _ w8 ⟨s, M8⟩
   refine Qa1<|Qag ?_
   have t := ((X7.kz K4).md M8)
   cases hm
   refine ⟨_, _, rfl, Qb1 rfl (Qap Qak rfl s rfl), ?_⟩
   exact ⟨rfl, t⟩
 replace hm := iT c1 hm
 refine qu<|Qa3<|Qan<|qs 2 rfl<|qm rfl ?_
 refine qm rfl<|Qa1<|dw [([b3])] [] (.leaf [(0,10),(1,10),(2,10),(3,10),(4,10),(5,10),(6,10),(7,10),(8,10),(9,10),(10,10),(11,10),(12,10),(13,10),(14,10),(15,10),(16,10),(17,10),(18,0),(19,10),(20,0)]) ?_
 intro w5 G5 L
 refine Qal<|dm 0 rfl rfl<|dm 0 rfl rfl<|dh 0 rfl rfl (fun w hS => Qce (k := .i64) (a := 8) (b := a3) rfl rfl)<|dh 0 rfl rfl (fun w hS => Qa0 Qkx rfl) ?_
 have l := ((((h.gr G2).gr G3).kz K4).gr G5)
 refine dh 0 rfl rfl (fun w hS => Qa2 (v := wv p0.x) Qb5 rfl (Bx.kp l hS) rfl)<|dm 0 rfl rfl<|dh 0 rfl rfl (fun w hS => Qjl (k := .i64) (a := 8) (b := a3) rfl rfl)<|dh 0 rfl rfl (fun w hS => Qi7 (k := .i64) (a := 56) (b := w64 (8 * a3)) rfl rfl) ?_
 obtain ⟨n5, hn5, hm⟩ := bnd hm
 refine dh 0 rfl rfl (fun w hS => Qvy (c := p0.x) (b := (w64 (56 - (w64 (8 * a3))))) rfl rfl hn5)<|dh 0 rfl rfl (fun w hS => Xcp Qjx rfl)<|dh 0 rfl rfl (fun w hS => Qa0 Qk6 rfl)<|dh 0 rfl rfl (fun w hS => Qa2 (v := wv p0.y) Qb5 rfl (Bx.kp l hS) rfl)<|dm 0 rfl rfl<|dh 0 rfl rfl (fun w hS => Qjl (k := .i64) (a := 8) (b := a3) rfl rfl)<|dh 0 rfl rfl (fun w hS => Qi7 (k := .i64) (a := 56) (b := w64 (8 * a3)) rfl rfl) ?_
 obtain ⟨n6, hn6, hm⟩ := bnd hm
 refine dh 0 rfl rfl (fun w hS => Qvy (c := p0.y) (b := (w64 (56 - (w64 (8 * a3))))) rfl rfl hn6)<|dh 0 rfl rfl (fun w hS => Xcp Qjx rfl) ?_
 obtain ⟨y7, u, hm⟩ := bnd hm
 refine dh 0 rfl rfl (fun w hS => Qum (i := a3) (p := a4) Tryz.underlying23 (Qcu).siz rfl rfl u) ?_
 have z := (d.gr G5)
 obtain ⟨x8, A, hm⟩ := bnd hm
 refine qz [(1, b3)] rfl (Xhm (off := 0) (p := a4) (q := x8) (i := a3) (cs' := kb x8) (Qcu).siz rfl rfl z rfl A rfl rfl rfl) ⟨fun _ => tk0, trivial⟩ ?_
 rintro _ w6 ⟨B, M6⟩
 refine kM M6 ?_
 obtain ⟨y9, C, hm⟩ := bnd hm
 have D := ((Kp.refl ([b3]) w5).md M6)
 refine qh 0 rfl rfl D (fun w hS => Qum (i := w64 (8 + a3)) (p := x8) Tryz.underlying23 (Qcu).siz rfl rfl C) ?_
 obtain ⟨g, m, hm⟩ := bnd hm
 refine qz [(1, b3)] rfl (Xhm (off := 0) (p := x8) (q := g) (i := w64 (8 + a3)) (cs' := kb g) (Qcu).siz rfl rfl B rfl m rfl rfl rfl) ⟨fun _ => tk0, trivial⟩ ?_
 rintro _ w7 ⟨E, M7⟩
 refine kM M7<|Qa9<|Qay<|Qaz<|qg 2 rfl<|qv rfl (Qce (k := .i64) (a := a3) (b := 1) rfl rfl)<|qm rfl ?_
 refine Qa9 ?_
 have K_15 : Kz [(1, b3)] w3 w7 := (((K4.gr G5).md M6).md M7)
 subst f
 exact ⟨rfl, ⟨n1, w64 (a3 + 1), g⟩, sbq, ⟨hm, E, K_15⟩, Nat.lt_succ_self _⟩
theorem Quu {p0 p1 p2 r} (hm : Qnm p0 p1 p2 = some r) {w : World} :
    Calls Tryz.prog 97 [bv p0, wv p1, wv p2].toArray w fun e w' => ∃ v, e = .returned v ∧ (v = kv r ∧ Gr w w') := by
 unfold Qnm at hm
 refine Qa5 15 Tryz.func97 rfl rfl rfl<|qs 1 rfl<|qe rfl (Qa8 (cs := kb k0) Qeo rfl) ?_
 rintro _ w1 ⟨b1, rfl, h, d, G1⟩
 refine qd 9 rfl<|qm rfl<|qv rfl (Qw8 Qos rfl) ?_
 obtain ⟨n1, hn1, hm⟩ := bnd hm
 refine qv rfl (Xco (c := p0.setWidth 64) (b := (un 56#64)) rfl rfl hn1)<|qm rfl<|qv rfl (Qve (a := (p0.setWidth 64) <<< n1) (b := p1) rfl rfl)<|qm rfl<|qv rfl (Qas (cs := Qb0.cs (Qb0.mk (((p0.setWidth 64) <<< n1) ||| p1) p2)) Xao rfl rfl) ?_
 obtain ⟨x2, f, hm⟩ := bnd hm
 refine qe rfl (eC Xb2 rfl (Qs8 f)) ?_
 rintro _ w2 ⟨rfl, G2⟩
 have B4 := (d.gr G2)
 refine qe rfl (Qaj Qak rfl rfl rfl B4 rfl rfl) ?_
 rintro _ w3 ⟨g, M3⟩
 refine Qa1<|Qag ?_
 have X6 := ((((Gr.refl w).trans G1).trans G2).md M3)
 cases hm
 refine ⟨_, _, rfl, Qb1 rfl (Qap Qak rfl g rfl), ?_⟩
 exact ⟨rfl, X6⟩
theorem Qqm {p0 p1 p2 vp2 zp2 gp2 op2 r} (hm : Qly p0 p1 p2 = some r) {w : World} (D : Rd w zp2 gp2 op2 1 vp2 (p2.map bvc)) :
    Calls Tryz.prog 76 [kv p0, wv p1, vp2].toArray w fun e w' => ∃ v, e = .returned v ∧ (∃ ur0_s zr0_s gr0_s, v = .tuple [ur0_s, .int .i64 r.2].toArray ∧ Own w' zr0_s gr0_s 5 1 ur0_s (r.1.map bvc) ∧ Hdn (zr0_s = 0 ∨ w.heap.size ≤ gr0_s) ∧ Gr w w') := by
 have E := D.lth
 unfold Qly at hm
 refine Qa5 46 Tryz.func76 rfl rfl rfl<|qs 3 rfl<|qe rfl (Qaq (cs := kb p0) rfl rfl) ?_
 rintro _ w1 ⟨b1, rfl, ae, F, G1⟩
 have ai := F.lt
 refine qm rfl<|qm rfl<|Qa1<|Qa3<|qs 3 rfl<|qm rfl ?_
 have B4 := (D.gr G1)
 refine qv rfl (Qbi (l := p2) (c := bvc) Tryz.underlying50 rfl B4)<|qv rfl (Qey (a := (p2.length : Int)) (b := 16384) rfl rfl)<|Qa1<|Qam rfl (fun c1 => ?_) (fun c1 => ?_)
 · replace hm := iT c1 hm
   refine qs 2 rfl<|qm rfl<|qm rfl<|Qa1<|Qag<|Qb2 ?_
   have X5 := ((Gr.refl w).trans G1)
   cases hm
   refine ⟨_, _, rfl, Qbk rfl (Qab rfl) (Qab rfl), ?_⟩
   exact ⟨(.slice none 0 0), 0, 0, rfl, (Qax _ 0 5 1), ⟨.inl rfl⟩, X5⟩
 replace hm := iF c1 hm
 refine qu<|qs 4 rfl<|qm rfl<|qv rfl (Qbi (l := p2) (c := bvc) Tryz.underlying50 rfl B4) ?_
 obtain ⟨l1, U, hm⟩ := bnd hm
 refine qe rfl (Xle (c := bvc) (a := 0#8) Qxb Xqj rfl ⟨rfl, rfl⟩ rfl U (by decide)) ?_
 rintro V w2 ⟨f, af, G, G2⟩
 have z6 := G2.size
 have H := G.lth
 refine qm rfl<|qd 1 rfl<|qe rfl (Qa8 (cs := kb k0) Qeo rfl) ?_
 rintro _ w3 ⟨b3, rfl, ag, I, G3⟩
 have aj := I.lt
 refine Qa1<|Qa3<|qs 3 rfl<|qm rfl ?_
 have J := ((B4.gr G2).gr G3)
 refine qv rfl (Qbi (l := p2) (c := bvc) Tryz.underlying50 rfl J)<|qm rfl<|Qa1<|Qan ?_
 have W := ((((Gr.refl w).trans G1).trans G2).trans G3)
 have X := (G.gr G3)
 refine Qbj (α := Nat × List (BitVec 8) × Int × W2 × Value × Nat × Nat) ([8, 10, 11] ++ rg 20 25) (fun ⟨n1, a6, a8, a9, vy7, zy7, gy7⟩ => [(8, vy7), (20, .int .i64 a8)]) (fun ⟨n1, a6, a8, a9, vy7, zy7, gy7⟩ wr => (Qc3 (Qj1 p0 p1 p2) n1 (a6, a8, a9) = some r) ∧ Own wr zy7 gy7 5 1 vy7 (a6.map bvc) ∧ Hdn (zy7 = 0 ∨ (gy7 = f ∧ 1 ≠ 0) ∨ w3.heap.size ≤ gy7) ∧ Bx wr b3 23 (kb a9) ∧ Kz [(1, b3), (1, f)] w3 wr) (fun ⟨n1, a6, a8, a9, vy7, zy7, gy7⟩ => n1) ⟨Qcw, l1, 0, k0, V, 1, f⟩ ?_ ?_ ?_
 · exact sbq
 · exact ⟨hm, X, ⟨tk0⟩, I, Kz.refl _ _⟩
 clear hm; rintro ⟨n1, a6, a8, a9, vy7, zy7, gy7⟩ w4 ⟨hm, j, d, m, K4⟩
 have hb := Qbv hm; clear hm; obtain ⟨n1, rfl, hm⟩ := hb
 generalize B : Qc3 (Qj1 p0 p1 p2) n1 = K at hm
 unfold Qj1 at hm
 try dsimp only at hm
 refine qs 1 rfl<|qv rfl (Qcd (a := a8) (b := (p2.length : Int)) rfl rfl)<|Qa1<|Qa3<|cnF rfl (fun c2 => ?_) (fun c2 => ?_)
 · replace hm := iF c2 hm
   refine Qbp<|Qb4<|Qb4<|Qbq<|Qaz<|qs 3 rfl ?_
   refine qm rfl<|qm rfl<|qm rfl<|Qa1<|Qag ?_
   have Y := (W.kz K4 (tk1 ((.inr tk0) : 1 = 0 ∨ w.heap.size ≤ f)))
   cases hm
   refine ⟨_, _, rfl, Qbk rfl (Qab rfl) (Qab rfl), ?_⟩
   exact ⟨vy7, zy7, gy7, rfl, j, ⟨(Qd3 (A := (fun x => w.heap.size ≤ x)) d (.inr tk0))⟩, Y⟩
 replace hm := iT c2 hm
 refine qu<|Qa3<|Qan<|qs 5 rfl<|qm rfl ?_
 obtain ⟨h, y, hm⟩ := bnd hm
 have L := (J.kz K4 (tk2 ((Qld (.inr (tk1 E.o))) : zp2 = 0 ∨ 1 = 0 ∨ gp2 ≠ f) (Qau (b := b3) E)))
 refine qv rfl (Qf7 (i := a8) Tryz.underlying50 (Qcu).siz rfl L rfl y)<|qv rfl (Qk9 (q := 0) (u := bv h) Qcu rfl L y (by first | rfl | omega) rfl)<|qm rfl<|qm rfl<|Qa1 ?_
 refine qj (β := W2) (rg 25 10) (fun g => []) (fun g wr => (Qj2 a6 a8 K h g = some r) ∧ Bx wr b3 23 (kb g) ∧ Kz [(1, b3)] w4 wr) ?_ ?_
 · refine qs 3 rfl<|qm rfl ?_
   obtain ⟨Z, M, hm⟩ := bnd hm
   refine qv rfl (Qjv (a := a8) (b := 16) rfl rfl M)<|qv rfl (Qeh (a := Z) (b := 0) rfl rfl)<|Qa1<|cnF rfl (fun c3 => ?_) (fun c3 => ?_)
   · replace hm := iF c3 hm
     refine Qc4 ?_
     exact ⟨rfl, a9, sbq, hm, m, (Kz.refl _ _)⟩
   replace hm := iT c3 hm
   refine dw [([b3])] [] (.leaf [(0,10),(1,10),(2,10),(3,10),(4,10),(5,0),(6,0),(7,0)]) ?_
   intro w7 G7 ak
   refine Qal ?_
   have aa := ((((F.gr G2).gr G3).kz K4 (tk1 ((.inr tk0) : 1 = 0 ∨ f ≠ b1))).gr G7)
   refine dh 0 rfl rfl (fun w hS => Qa4 Qak rfl (Bx.kp aa hS) rfl)<|dm 0 rfl rfl ?_
   obtain ⟨al, N, hm⟩ := bnd hm
   refine dh 0 rfl rfl (fun w hS => Qo6 (a := a8) (b := 16) rfl rfl N)<|dh 0 rfl rfl (fun w hS => Qfe Qfp rfl)<|dm 0 rfl rfl ?_
   obtain ⟨O, P, hm⟩ := bnd hm
   refine qz [] rfl (eC Xmz rfl (Quu P)) ⟨fun _ => tk0, trivial⟩ ?_
   rintro _ w8 ⟨rfl, G8⟩
   refine kG G8<|qz [] rfl (eC Xep rfl (Xar p0 O _)) ⟨fun _ => tk0, trivial⟩ ?_
   rintro _ w9 ⟨rfl, G9⟩
   refine kG G9 ?_
   have ab := (((m.gr G7).gr G8).gr G9)
   refine qz [(1, b3)] rfl (Qaj Qak rfl rfl rfl ab rfl rfl) ⟨fun _ => tk0, trivial⟩ ?_
   rintro _ am ⟨Q, R⟩
   refine kM R<|Qa9 ?_
   exact ⟨rfl, (Qw4 p0 O), sbq, hm, Q, ((((Kz.gr (Kz.refl _ _) G7).gr G8).gr G9).md R)⟩
 clear hm; rintro g w5 ⟨hm, n, K5⟩
 unfold Qj2 at hm
 refine qg 10 rfl<|qm rfl<|qm rfl<|qm rfl<|qm rfl ?_
 obtain ⟨S, T, hm⟩ := bnd hm
 refine qv rfl (Qjv (a := a8) (b := 16) rfl rfl T) ?_
 obtain ⟨t, z, hm⟩ := bnd hm
 refine qv rfl (Qum (i := S) (p := g) Tryz.underlying23 (Qcu).siz rfl rfl z)<|qv rfl (Xap (off := 0) (p := g) (i := S) Qcu rfl n rfl z (by omega))<|qv rfl (Xgx (a := h) (b := t) rfl rfl) ?_
 obtain ⟨an, s, hm⟩ := bnd hm
 have C := (j.kz K5 (tk1 (Qd2 (b := b3) d (Qau H))))
 refine qv rfl (Qf7 (i := a8) Tryz.underlying50 (Qcu).siz rfl (Own.rd C) rfl s) ?_
 have ah := Own.z1 C s
 refine qe rfl (Xhs (i := a8) (q := 0) (a' := h ^^^ t) (vs := [bv (h ^^^ t)]) (c := bvc) (Qcu).siz rfl rfl rfl rfl rfl C s (by first | rfl | omega) rfl rfl ⟨rfl, rfl⟩) ?_
 rintro _ w6 ⟨ac, M6⟩
 refine Qa9<|Qay<|Qaz<|qg 2 rfl<|qv rfl (Qce (k := .i64) (a := a8) (b := 1) rfl rfl)<|qm rfl<|Qa9 ?_
 have K_23 : Kz [(1, b3), (1, f)] w3 w6 := ((K4.kz K5).md M6 (tk1 (Qd3 (A := (fun x => (x = f ∧ 1 ≠ 0) ∨ w3.heap.size ≤ x)) d tk0)))
 have ad := (n.md M6 (tk1 (Qd2 (b := b3) d (Qau H))))
 subst B
 exact ⟨rfl, ⟨n1, a6.set a8.toNat (h ^^^ t), w64 (a8 + 1), g, vy7, zy7, gy7⟩, sbq, ⟨hm, ac, ⟨(Qd3 (A := (fun x => (x = f ∧ 1 ≠ 0) ∨ w3.heap.size ≤ x)) d tk0)⟩, ad, K_23⟩, Nat.lt_succ_self _⟩
theorem Qc1 {p0 p1 p2 p3 p4 vp4 zp4 gp4 op4 r} (hm : Qp6 p0 p1 p2 p3 p4 = some r) {w : World} (H : Rd w zp4 gp4 op4 1 vp4 (p4.map bvc)) :
    Calls Tryz.prog 31 [kv p0, .agg (Qfr.cs p1).toArray, .int .i64 p2, wv p3, vp4].toArray w fun e w' => ∃ v, e = .returned v ∧ (∃ ur0_2 zr0_2 gr0_2 ur0_4 zr0_4 gr0_4 ur0_39 zr0_39 gr0_39, v = .tuple [.agg (Qai.cs r.1 ur0_2 ur0_4 ur0_39).toArray, .int .i64 r.2].toArray ∧ Own w' zr0_2 gr0_2 133 18 ur0_2 (r.1.Head.Items.map Qcc.cs) ∧ Hdn (zr0_2 = 0 ∨ w.heap.size ≤ gr0_2) ∧ Own w' zr0_4 gr0_4 31 2 ur0_4 (r.1.Head.Points.map Qah.cs) ∧ Hdn (zr0_4 = 0 ∨ w.heap.size ≤ gr0_4) ∧ Own w' zr0_39 gr0_39 5 1 ur0_39 (r.1.Data.map bvc) ∧ Hdn (zr0_39 = 0 ∨ w.heap.size ≤ gr0_39) ∧ Hdn (zr0_4 = 0 ∨ zr0_2 = 0 ∨ gr0_4 ≠ gr0_2) ∧ Hdn (zr0_39 = 0 ∨ zr0_2 = 0 ∨ gr0_39 ≠ gr0_2) ∧ Hdn (zr0_39 = 0 ∨ zr0_4 = 0 ∨ gr0_39 ≠ gr0_4) ∧ Gr w w') := by
 have ar := H.lth
 unfold Qp6 at hm
 refine Qa5 65 Tryz.func31 rfl rfl rfl<|qs 4 rfl<|qe rfl (Qaq (cs := kb p0) rfl rfl) ?_
 rintro _ w1 ⟨b1, rfl, a6, I, G1⟩
 have be := I.lt
 refine qe rfl (Qaq (cs := Qfr.cs p1) rfl rfl) ?_
 rintro _ w2 ⟨b2, rfl, a7, J, G2⟩
 have bf := J.lt
 refine qe rfl (Qa8 (cs := Qai.cs (Qai.mk 0#8 0 (Qaa.mk [] 0#64 [] k0 k0) 0#8 0#64 [] k0) (.slice none 0 0) (.slice none 0 0) (.slice none 0 0)) Qm4 rfl) ?_
 rintro _ w3 ⟨b3, rfl, a8, n, G3⟩
 have bg := n.lt
 refine qm rfl<|qd 8 rfl ?_
 have B8 := (J.gr G3)
 refine qv rfl (Qa4 Qht rfl B8 rfl)<|qm rfl ?_
 obtain ⟨x1, au, hm⟩ := bnd hm
 refine qe rfl (eC Xro rfl (Qps au)) ?_
 rintro _ w4 ⟨rfl, G4⟩
 have z9 := G4.size
 refine qm rfl<|qm rfl<|qm rfl<|qm rfl<|qm rfl<|Qa1<|Qa3 ?_
 refine qs 2 rfl<|qm rfl<|qv rfl (Qc2 (a := x1.2) (b := 0) rfl rfl)<|Qa1<|Qam rfl (fun c1 => ?_) (fun c1 => ?_)
 · replace hm := iT c1 hm
   refine qs 4 rfl<|qv rfl (Qas (cs := Qai.cs (Qai.mk 0#8 0 (Qaa.mk [] 0#64 [] k0 k0) 0#8 0#64 [] k0) (.slice none 0 0) (.slice none 0 0) (.slice none 0 0)) Xek rfl (by kernel_rfl))<|qm rfl ?_
   have av := (n.gr G4)
   refine qe rfl (Qaj Qcr rfl rfl (Qai.cs_ones _ _ _ _ rfl rfl rfl) av rfl rfl) ?_
   rintro _ w5 ⟨aw, M5⟩
   refine qm rfl<|qb ?_
   have Y1 := Gr.trans (Gr.trans (Gr.trans G1 G2) G3) G4
   have ax := (((Gr.refl w).trans Y1).md M5)
   cases hm
   refine ⟨_, _, rfl, Qbk rfl (Qap Qcr rfl aw rfl) (Qab rfl), ?_⟩
   exact ⟨(.slice none 0 0), 0, 0, (.slice none 0 0), 0, 0, (.slice none 0 0), 0, 0, rfl, (Qax _ 0 133 18), ⟨.inl rfl⟩, (Qax _ 0 31 2), ⟨.inl rfl⟩, (Qax _ 0 5 1), ⟨.inl rfl⟩, ⟨(.inl rfl)⟩, ⟨(.inl rfl)⟩, ⟨(.inl rfl)⟩, ax⟩
 replace hm := iF c1 hm
 refine qu<|Qa3<|qs 3 rfl<|qm rfl ?_
 have Y2 := Gr.trans (Gr.trans (Gr.trans G1 G2) G3) G4
 have K := (H.gr Y2)
 refine qv rfl (Qbi (l := p4) (c := bvc) Tryz.underlying50 rfl K)<|qv rfl (Qey (a := (p4.length : Int)) (b := 256) rfl rfl)<|Qa1<|Qam rfl (fun c2 => ?_) (fun c2 => ?_)
 · replace hm := iT c2 hm
   refine qs 3 rfl<|qv rfl (Qas (cs := Qai.cs (Qai.mk 0#8 0 (Qaa.mk [] 0#64 [] k0 k0) 0#8 0#64 [] k0) (.slice none 0 0) (.slice none 0 0) (.slice none 0 0)) Xek rfl (by kernel_rfl)) ?_
   have ay := (n.gr G4)
   refine qe rfl (Qaj Qcr rfl rfl (Qai.cs_ones _ _ _ _ rfl rfl rfl) ay rfl rfl) ?_
   rintro _ w6 ⟨az, M6⟩
   refine qm rfl<|qb ?_
   have aA := (((Gr.refl w).trans Y2).md M6)
   cases hm
   refine ⟨_, _, rfl, Qbk rfl (Qap Qcr rfl az rfl) (Qab rfl), ?_⟩
   exact ⟨(.slice none 0 0), 0, 0, (.slice none 0 0), 0, 0, (.slice none 0 0), 0, 0, rfl, (Qax _ 0 133 18), ⟨.inl rfl⟩, (Qax _ 0 31 2), ⟨.inl rfl⟩, (Qax _ 0 5 1), ⟨.inl rfl⟩, ⟨(.inl rfl)⟩, ⟨(.inl rfl)⟩, ⟨(.inl rfl)⟩, aA⟩
 replace hm := iF c2 hm
 refine qu ?_
 have L := ((Gr.refl w).trans Y2)
 refine qj (β := W2 × Nat) ([14] ++ rg 30 8) (fun ⟨a3, bq2⟩ => [(14, .pointer (some ⟨bq2, 0, none⟩))]) (fun ⟨a3, bq2⟩ wr => (Qlj p3 p4 x1 a3 = some r) ∧ Bx wr bq2 23 (kb a3) ∧ w4.heap.size ≤ bq2 ∧ Kz [] w4 wr) ?_ ?_
 · refine dw [([])] [] (.fork [(0,10),(1,10),(2,10),(3,10),(4,10),(6,10)] (.fork [(5,0)] (.leaf [(7,0),(8,0),(9,0)]) (.leaf [(8,0),(7,0),(9,0)])) (.leaf [(8,0),(5,0),(7,0),(9,0)])) ?_
   intro bh o a9
   refine Qbc ?_
   have aB := ((((I.gr G2).gr G3).gr G4).gr o)
   refine dh 0 rfl rfl (fun w hS => Qa4 Qak rfl (Bx.kp aB hS) rfl)<|dm 0 rfl rfl<|dh 0 rfl rfl (fun w hS => Qa0 Qje rfl) ?_
   have aC := ((B8.gr G4).gr o)
   refine dh 0 rfl rfl (fun w hS => Qa2 (v := .int .i64 p1.Epoch) Qaw rfl (Bx.kp aC hS) rfl) ?_
   obtain ⟨x8, aD, hm⟩ := bnd hm
   refine dh 0 rfl rfl (fun w hS => Qo6 (a := p2) (b := p1.Epoch) rfl rfl aD)<|dm 0 rfl rfl<|Qbt ?_ ?_
   · refine Qbc ?_
     obtain ⟨x9, aE, hm⟩ := bnd hm
     refine qz [] rfl (eC Xeu rfl (Qgk aE)) ⟨fun _ => tk0, trivial⟩ ?_
     rintro _ bi ⟨rfl, u⟩
     have bj := u.size
     refine kG u<|Qbt ?_ ?_
     · refine Qal ?_
       obtain ⟨aF, M, hm⟩ := bnd hm
       refine qz [] rfl (eC Xjq rfl (Qn5 M)) ⟨fun _ => tk0, trivial⟩ ?_
       rintro _ bk ⟨rfl, y⟩
       have bl := y.size
       refine kG y<|qz [] rfl (Qa8 (cs := kb k0) Qeo rfl) ⟨fun _ => tk0, trivial⟩ ?_
       rintro _ bm ⟨N, rfl, aG, O, P⟩
       refine kG P<|qz [(1, N)] rfl (Qaj Qak rfl rfl rfl O rfl rfl) ⟨fun _ => tk0, trivial⟩ ?_
       rintro _ bo ⟨Q, R⟩
       refine kM R<|Qa9 ?_
       exact ⟨rfl, ⟨aF, N⟩, sbq, hm, Q, (by omega), (((((kz0.gr o).gr u).gr y).gr P).md R)⟩
     refine Qal<|qz [] rfl (Qa8 (cs := kb k0) Qeo rfl) ⟨fun _ => tk0, trivial⟩ ?_
     rintro _ bp ⟨S, rfl, aH, T, U⟩
     refine kG U ?_
     obtain ⟨aI, V, hm⟩ := bnd hm
     refine qz [] rfl (eC Xjq rfl (Qn5 V)) ⟨fun _ => tk0, trivial⟩ ?_
     rintro _ bq ⟨rfl, z⟩
     refine kG z ?_
     have aJ := (T.gr z)
     refine qz [(1, S)] rfl (Qaj Qak rfl rfl rfl aJ rfl rfl) ⟨fun _ => tk0, trivial⟩ ?_
     rintro _ br ⟨W, X⟩
     refine kM X<|Qa9 ?_
     exact ⟨rfl, ⟨aI, S⟩, sbq, hm, W, (by omega), (((((kz0.gr o).gr u).gr U).gr z).md X)⟩
   refine Qal<|qz [] rfl (Qa8 (cs := kb k0) Qeo rfl) ⟨fun _ => tk0, trivial⟩ ?_
   rintro _ bs ⟨Y, rfl, aK, Z, aa⟩
   refine kG aa ?_
   obtain ⟨bu, ab, hm⟩ := bnd hm
   refine qz [] rfl (eC Xeu rfl (Qgk ab)) ⟨fun _ => tk0, trivial⟩ ?_
   rintro _ bw ⟨rfl, B⟩
   refine kG B ?_
   obtain ⟨aL, ac, hm⟩ := bnd hm
   refine qz [] rfl (eC Xjq rfl (Qn5 ac)) ⟨fun _ => tk0, trivial⟩ ?_
   rintro _ bx ⟨rfl, C⟩
   refine kG C ?_
   have aM := ((Z.gr B).gr C)
   refine qz [(1, Y)] rfl (Qaj Qak rfl rfl rfl aM rfl rfl) ⟨fun _ => tk0, trivial⟩ ?_
   rintro _ bz ⟨ad, ae⟩
   refine kM ae<|Qa9 ?_
   exact ⟨rfl, ⟨aL, Y⟩, sbq, hm, ad, (by omega), (((((kz0.gr o).gr aa).gr B).gr C).md ae)⟩
 clear hm; rintro ⟨a3, bq2⟩ w7 ⟨hm, p, aN, K7⟩
 have ba := p.lt
 unfold Qlj at hm
 refine qs 7 rfl<|qm rfl ?_
 obtain ⟨x4, aO, hm⟩ := bnd hm
 refine qv rfl (Qjv (a := x1.1) (b := 4) rfl rfl aO)<|qv rfl (Xn5 Xpm rfl)<|qm rfl<|qv rfl (Qas (cs := Qai.cs (Qai.mk 2#8 0 (Qaa.mk [] 0#64 [] k0 k0) (wd8 x4) p3 [] k0) (.slice none 0 0) (.slice none 0 0) (.slice none 0 0)) Xek rfl (by kernel_rfl))<|qe rfl (Qa8 (cs := Qai.cs (Qai.mk 0#8 0 (Qaa.mk [] 0#64 [] k0 k0) 0#8 0#64 [] k0) (.slice none 0 0) (.slice none 0 0) (.slice none 0 0)) Qm4 rfl) ?_
 rintro _ w8 ⟨b8, rfl, bb, af, G8⟩
 have bA := G8.size
 have bc := af.lt
 refine qe rfl (Qaj Qcr rfl rfl (Qai.cs_ones _ _ _ _ rfl rfl rfl) af rfl rfl) ?_
 rintro _ w9 ⟨aP, M9⟩
 have bB := M9.size
 refine Qa1<|Qa3<|qs 10 rfl ?_
 have ag := ((p.gr G8).md M9)
 refine qv rfl (Qa4 Qak rfl ag rfl)<|qm rfl<|qm rfl ?_
 have aQ := (((K.kz K7).gr G8).md M9 (Qau ar))
 obtain ⟨x5, aR, hm⟩ := bnd hm
 refine qe rfl (eC Xse rfl (Qqm aR aQ)) ?_
 rintro _ bC ⟨f, h, i, rfl, g, d, j⟩
 refine qm rfl<|qm rfl<|qm rfl<|qv rfl (Qa0 Qrp rfl) ?_
 have aS := (aP.gr j)
 refine qe rfl (Qe9 (cs' := Qai.cs (Qai.mk 2#8 0 (Qaa.mk [] 0#64 [] k0 k0) (wd8 x4) p3 x5.1 k0) (.slice none 0 0) (.slice none 0 0) f) (Qmm).siz rfl rfl (Own.oneB g) aS rfl rfl) ?_
 rintro _ bD ⟨ah, k⟩
 refine qm rfl<|qd 2 rfl<|qm rfl<|qv rfl (Qc2 (a := x5.2) (b := 0) rfl rfl)<|Qa1 ?_
 refine Qam rfl (fun c3 => ?_) (fun c3 => ?_)
 · replace hm := iT c3 hm
   refine qs 4 rfl<|qv rfl (Qas (cs := Qai.cs (Qai.mk 0#8 0 (Qaa.mk [] 0#64 [] k0 k0) 0#8 0#64 [] k0) (.slice none 0 0) (.slice none 0 0) (.slice none 0 0)) Xek rfl (by kernel_rfl))<|qm rfl ?_
   have aT := ((((((n.gr G4).kz K7).gr G8).md M9).gr j).md k)
   refine qe rfl (Qaj Qcr rfl rfl (Qai.cs_ones _ _ _ _ rfl rfl rfl) aT rfl rfl) ?_
   rintro _ bE ⟨ai, aU⟩
   refine qm rfl<|qb ?_
   have aV := ((((((L.kz K7).trans G8).md M9).trans j).md k).md aU)
   cases hm
   refine ⟨_, _, rfl, Qbk rfl (Qap Qcr rfl ai rfl) (Qab rfl), ?_⟩
   exact ⟨(.slice none 0 0), 0, 0, (.slice none 0 0), 0, 0, (.slice none 0 0), 0, 0, rfl, (Qax _ 0 133 18), ⟨.inl rfl⟩, (Qax _ 0 31 2), ⟨.inl rfl⟩, (Qax _ 0 5 1), ⟨.inl rfl⟩, ⟨(.inl rfl)⟩, ⟨(.inl rfl)⟩, ⟨(.inl rfl)⟩, aV⟩
 replace hm := iF c3 hm
 refine qu<|Qa3<|dw [([b8]),([])] [(8, [1])] (.leaf [(0,10),(1,11),(2,0),(3,0),(4,10),(5,10),(6,10),(7,10),(8,0),(9,10)]) ?_
 intro aW q bd
 refine Qal ?_
 have aX := (((ag.gr j).md k).gr q)
 refine dh 0 rfl rfl (fun w hS => Qa4 Qak rfl (Bx.kp aX hS) rfl) ?_
 have aj := (ah.gr q)
 refine dh 1 rfl rfl (fun w hS => Qa4 Qcr rfl (Bx.kp aj hS) rfl) ?_
 have ak := ((g.md k (Qd7 d)).gr q)
 obtain ⟨x6, aY, hm⟩ := bnd hm
 refine qz [] rfl (eC Xf1 rfl (Qjj aY (Own.rd (Qax _ 0 133 18)) (Own.rd (Qax _ 0 31 2)) (Own.rd ak))) ⟨fun _ => tk0, fun _ => tk0, trivial⟩ ?_
 rintro D bF ⟨_, E, F, rfl, m, G, al⟩
 refine kG al ?_
 obtain ⟨x7, aZ, hm⟩ := bnd hm
 refine qz [] rfl (eC Qzi rfl (Qgt aZ (Own.rd m))) ⟨fun _ => tk0, fun _ => tk0, trivial⟩ ?_
 rintro _ bG ⟨rfl, am⟩
 refine kG am ?_
 have Y3 := Gr.trans al am
 have s := ((Kp.refl ([b8]) aW).gr Y3)
 refine dn 0 rfl rfl s<|dn 0 rfl rfl s<|dn 0 rfl rfl s<|qh 0 rfl rfl s (fun w hS => Qa0 Qye rfl) ?_
 have a0 := (aj.gr Y3)
 refine qz [(1, b8)] rfl (Qvz (cs' := Qai.cs (Qai.mk 2#8 0 (Qaa.mk [] 0#64 [] k0 k0) (wd8 x4) p3 x5.1 x7.1) (.slice none 0 0) (.slice none 0 0) f) (vs := kb x7.1) (Qak).siz rfl rfl rfl rfl rfl a0 rfl rfl) ⟨fun _ => tk0, nofun, trivial⟩ ?_
 rintro _ bH ⟨an, t⟩
 refine kM t ?_
 have a1 := (s.md t)
 refine dn 0 rfl rfl a1<|qd 4 rfl<|qv rfl (Qa4 Qcr rfl an rfl)<|qm rfl ?_
 have a2 := (((((((((n.gr G4).kz K7).gr G8).md M9).gr j).md k).gr q).gr Y3).md t)
 have ao := ((ak.gr Y3).md t (Qd7 d))
 refine qe rfl (Qaj Qcr rfl rfl (Qai.cs_ones _ _ _ _ rfl rfl (Own.oneB ao)) a2 rfl rfl) ?_
 rintro _ bI ⟨ap, aq⟩
 refine qm rfl<|Qa1<|Qag ?_
 have a4 := (ao.md aq (Qd7 d))
 have a5 := (((((((((L.kz K7).trans G8).md M9).trans j).md k).trans q).trans Y3).md t).md aq)
 cases hm
 refine ⟨_, _, rfl, Qbk rfl (Qap Qcr rfl ap rfl) (Qab rfl), ?_⟩
 exact ⟨(.slice none 0 0), 0, 0, (.slice none 0 0), 0, 0, f, h, i, rfl, (Qax _ 0 133 18), ⟨.inl rfl⟩, (Qax _ 0 31 2), ⟨.inl rfl⟩, a4, ⟨(Qbs (A := (fun x => w.heap.size ≤ x)) d)⟩, ⟨(.inl rfl)⟩, ⟨(.inr (.inl rfl))⟩, ⟨(.inr (.inl rfl))⟩, a5⟩
theorem Qrv {p0 r} (hm : Qkh p0 = some r) {w : World} :
    Calls Tryz.prog 19 [.agg (Qa7.cs p0).toArray].toArray w fun e w' => ∃ v, e = .returned v ∧ (v = .int .i64 r ∧ Gr w w') := by
 unfold Qkh at hm
 refine Qa5 11 Tryz.func19 rfl rfl rfl<|qs 2 rfl<|qe rfl (Qaq (cs := Qa7.cs p0) rfl rfl) ?_
 rintro _ w1 ⟨b1, rfl, aq, A, G1⟩
 have aF := A.lt
 refine qm rfl<|qd 8 rfl<|qv rfl (Qa4 Qcn rfl A rfl)<|Qxq 33 Tryz.func61 rfl rfl rfl Xl2 rfl rfl rfl rfl rfl<|Qa3 ?_
 refine qg 3 rfl<|qe rfl (Qaq (cs := Qa7.cs p0) rfl rfl) ?_
 rintro _ w2 ⟨b2, rfl, ar, s, G2⟩
 have aG := s.lt
 refine qe rfl (Qa8 (cs := [.nilFunc, .nilFunc, .nilFunc, .nilFunc]) Qfw rfl) ?_
 rintro _ w3 ⟨b3, rfl, au, f, G3⟩
 have aH := f.lt
 refine qm rfl<|qd 3 rfl<|qv rfl (Qas (cs := [.func (.func 121) #[] #[], .func (.func 137) #[] #[], .func (.func 53) #[] #[], .func (.func 138) #[] #[]]) Qlp rfl rfl)<|qe rfl (Qa8 (cs := [.nilFunc, .nilFunc, .nilFunc, .nilFunc]) Qfw rfl) ?_
 rintro _ w4 ⟨b4, rfl, av, B, G4⟩
 have aI := B.lt
 refine qe rfl (Qaj Qav rfl rfl rfl B rfl rfl) ?_
 rintro _ w5 ⟨t, M5⟩
 have z9 := M5.size
 refine qd 8 rfl<|qv rfl (Qas (cs := [.nilFunc, .nilFunc, .nilFunc, .nilFunc]) Qlp rfl rfl)<|qv rfl (Qb6 (vs := [.func (.func 121) #[] #[], .func (.func 137) #[] #[], .func (.func 53) #[] #[], .func (.func 138) #[] #[]]) Qav rfl t rfl rfl)<|qv rfl (Qb6 (vs := [.func (.func 121) #[] #[], .func (.func 137) #[] #[], .func (.func 53) #[] #[], .func (.func 138) #[] #[]]) Qav rfl t rfl rfl)<|qv rfl (Qb6 (vs := [.func (.func 121) #[] #[], .func (.func 137) #[] #[], .func (.func 53) #[] #[], .func (.func 138) #[] #[]]) Qav rfl t rfl rfl) ?_
 refine qv rfl (Qas (cs := [.func (.func 139) #[] #[], .func (.func 140) #[] #[], .func (.func 50) #[] #[], .func (.func 49) #[] #[]]) Qlp rfl rfl)<|qv rfl (Qqh (cs := [.nilFunc, .nilFunc, .nilFunc, .nilFunc, .func (.func 121) #[] #[], .func (.func 137) #[] #[], .func (.func 53) #[] #[], .func (.func 138) #[] #[], .func (.func 121) #[] #[], .func (.func 137) #[] #[], .func (.func 53) #[] #[], .func (.func 138) #[] #[], .func (.func 121) #[] #[], .func (.func 137) #[] #[], .func (.func 53) #[] #[], .func (.func 138) #[] #[], .func (.func 139) #[] #[], .func (.func 140) #[] #[], .func (.func 50) #[] #[], .func (.func 49) #[] #[]]) Xd3 rfl rfl)<|qe rfl (Qa8 (cs := [.nilFunc, .nilFunc, .nilFunc, .nilFunc, .nilFunc, .nilFunc, .nilFunc, .nilFunc, .nilFunc, .nilFunc, .nilFunc, .nilFunc, .nilFunc, .nilFunc, .nilFunc, .nilFunc, .nilFunc, .nilFunc, .nilFunc, .nilFunc]) Qzv rfl) ?_
 rintro _ w6 ⟨b6, rfl, aw, C, G6⟩
 have ax := C.lt
 refine qe rfl (Qaj Qxy rfl rfl rfl C rfl rfl) ?_
 rintro _ w7 ⟨D, M7⟩
 have aJ := M7.size
 refine Qa1<|Qa3 ?_
 have u := ((((((((Gr.refl w).trans G1).trans G2).trans G3).trans G4).md M5).trans G6).md M7)
 refine qj (β := Bool) (rg 14 9) (fun a1 => [(22, .bool a1)]) (fun a1 wr => (Qge p0 a1 = some r) ∧ Kz [] w7 wr) ?_ ?_
 · refine qg 9 rfl<|qv rfl (Qa0 Qi3 rfl) ?_
   have E := (((((s.gr G3).gr G4).md M5).gr G6).md M7)
   refine qv rfl (Qa2 (v := bv p0.Kind) Qcu rfl E rfl)<|qv rfl (Qtt (p := p0.Kind) (q := 1#8) rfl rfl)<|qp rfl (Qac rfl) (fun c4 => ?_) (fun c4 => ?_)
   · replace hm := iT c4 hm
     refine qk rfl<|qk rfl<|qk rfl<|qk rfl<|qm rfl<|Qa9 ?_
     exact ⟨rfl, true, sbq, hm, kz0⟩
   replace hm := iF c4 hm
   refine qv rfl (Qa0 Qi3 rfl)<|qv rfl (Qa2 (v := bv p0.Kind) Qcu rfl E rfl)<|qv rfl (Qw6 Qna rfl)<|qv rfl (Qee (a := un8 p0.Kind) (b := 5) rfl rfl)<|qm rfl<|Qa9 ?_
   exact ⟨rfl, (decide ((5 : Int) ≤ un8 p0.Kind)), sbq, hm, kz0⟩
 clear hm; rintro a1 w8 ⟨hm, K8⟩
 have aK := K8.size
 unfold Qge at hm
 refine Qam rfl (fun c1 => ?_) (fun c1 => ?_)
 · replace hm := Qc8 c1 hm
   refine qs 3 rfl<|qv rfl (Qas (cs := [.nilFunc, .nilFunc, .nilFunc, .nilFunc]) Qlp rfl rfl) ?_
   have O := (((((f.gr G4).md M5).gr G6).md M7).kz K8)
   refine qe rfl (Qaj Qav rfl rfl rfl O rfl rfl) ?_
   rintro _ w9 ⟨P, M9⟩
   have aL := M9.size
   refine qm rfl<|qb<|⟨_, _, rfl, Qbk rfl (Qap Qav rfl P rfl) (Qab rfl), ?_⟩
   refine qm rfl<|qm rfl<|qm rfl<|qe rfl (Qa8 (cs := [.nilFunc, .nilFunc, .nilFunc, .nilFunc]) Qfw rfl) ?_
   rintro _ aM ⟨aN, rfl, Q, F, R⟩
   refine qe rfl (Qaj Qav rfl rfl rfl F rfl rfl) ?_
   rintro _ aO ⟨ay, S⟩
   refine qm rfl<|qd 2 rfl<|qm rfl<|qm rfl<|Qa1 ?_
   refine Qag ?_
   have T := ((((u.kz K8).md M9).trans R).md S)
   cases hm
   refine ⟨_, _, rfl, Qb1 rfl (Qab rfl), ?_⟩
   exact ⟨rfl, T⟩
 replace hm := Qc7 c1 hm
 refine qu<|qs 6 rfl<|qv rfl (Qa0 Qi3 rfl) ?_
 have x := ((((((s.gr G3).gr G4).md M5).gr G6).md M7).kz K8)
 refine qv rfl (Qa2 (v := bv p0.Kind) Qcu rfl x rfl) ?_
 by_cases c2 : (un8 p0.Kind = 1 ∨ un8 p0.Kind = 2 ∨ un8 p0.Kind = 3)
 · replace hm := Qzd c2 hm
   refine qv rfl (Quo Tryz.underlying206 (Qav).siz rfl rfl (by omega)) ?_
   have U := (D.kz K8)
   refine qv rfl (Qb6 (vs := [.func (.func 121) #[] #[], .func (.func 137) #[] #[], .func (.func 53) #[] #[], .func (.func 138) #[] #[]]) Qav rfl U (by rcases c2 with h | h | h <;> rw [h] <;> rfl) rfl)<|qe rfl (Qa8 (cs := [.nilFunc, .nilFunc, .nilFunc, .nilFunc]) Qfw rfl) ?_
   rintro _ aP ⟨aQ, rfl, V, n, y⟩
   have az := n.lt
   refine qe rfl (Qaj Qav rfl rfl rfl n rfl rfl) ?_
   rintro _ aR ⟨G, g⟩
   have aS := g.size
   refine Qa1<|Qa3<|dw [([b3])] [] (.leaf [(0,10),(1,10),(2,10),(3,10),(4,0),(5,0),(6,10)]) ?_
   intro W i aA
   refine Qal ?_
   have H := (G.gr i)
   refine dh 0 rfl rfl (fun w hS => Qb6 (vs := [.func (.func 121) #[] #[], .func (.func 137) #[] #[], .func (.func 53) #[] #[], .func (.func 138) #[] #[]]) Qav rfl (Bx.kp H hS) rfl rfl)<|dh 0 rfl rfl (fun w hS => Qa0 Qne rfl)<|dh 0 rfl rfl (fun w hS => Qa2 (v := .func (.func 121) #[] #[]) Qsn rfl (Bx.kp H hS) rfl) ?_
   have X := (((x.gr y).md g).gr i)
   refine dh 0 rfl rfl (fun w hS => Qa4 Qcn rfl (Bx.kp X hS) rfl) ?_
   obtain ⟨x2, Y, hm⟩ := bnd hm
   refine qz [] rfl (Qcy Xa5 rfl rfl (Qk2 Y)) ⟨fun _ => tk0, trivial⟩ ?_
   rintro _ aT ⟨rfl, c⟩
   have aU := c.size
   refine kG c ?_
   have Z := (((((((((f.gr G4).md M5).gr G6).md M7).kz K8).gr y).md g).gr i).gr c)
   refine qz [(1, b3)] rfl (Qaj Qav rfl rfl rfl Z rfl rfl) ⟨fun _ => tk0, trivial⟩ ?_
   rintro _ aV ⟨I, j⟩
   have aW := j.size
   refine kM j ?_
   have aa := (((Kp.refl ([b3]) W).gr c).md j)
   refine dn 0 rfl rfl aa<|Qa1<|Qag<|⟨_, _, rfl, Qbk rfl (Qap Qav rfl I rfl) (Qab rfl), ?_⟩
   refine qm rfl<|qm rfl<|qm rfl<|qe rfl (Qa8 (cs := [.nilFunc, .nilFunc, .nilFunc, .nilFunc]) Qfw rfl) ?_
   rintro _ aX ⟨aY, rfl, ab, J, ac⟩
   refine qe rfl (Qaj Qav rfl rfl rfl J rfl rfl) ?_
   rintro _ aZ ⟨aB, ad⟩
   refine qm rfl<|qd 2 rfl<|qm rfl<|qm rfl<|Qa1 ?_
   refine Qag ?_
   have ae := ((((((((u.kz K8).trans y).md g).trans i).trans c).md j).trans ac).md ad)
   cases hm
   refine ⟨_, _, rfl, Qb1 rfl (Qab rfl), ?_⟩
   exact ⟨rfl, ae⟩
 replace hm := Qyd c2 hm
 by_cases c3 : (un8 p0.Kind = 4)
 · replace hm := Qzd c3 hm
   refine qv rfl (Quo Tryz.underlying206 (Qav).siz rfl rfl (by omega)) ?_
   have af := (D.kz K8)
   refine qv rfl (Qb6 (vs := [.func (.func 139) #[] #[], .func (.func 140) #[] #[], .func (.func 50) #[] #[], .func (.func 49) #[] #[]]) Qav rfl af (by rw [c3]; rfl) rfl)<|qe rfl (Qa8 (cs := [.nilFunc, .nilFunc, .nilFunc, .nilFunc]) Qfw rfl) ?_
   rintro _ a0 ⟨a2, rfl, ag, o, z⟩
   have aC := o.lt
   refine qe rfl (Qaj Qav rfl rfl rfl o rfl rfl) ?_
   rintro _ a3 ⟨K, k⟩
   have a4 := k.size
   refine Qa1<|Qa3<|dw [([b3])] [] (.leaf [(0,10),(1,10),(2,10),(3,10),(4,0),(5,0),(6,10)]) ?_
   intro ah l aD
   refine Qal ?_
   have L := (K.gr l)
   refine dh 0 rfl rfl (fun w hS => Qb6 (vs := [.func (.func 139) #[] #[], .func (.func 140) #[] #[], .func (.func 50) #[] #[], .func (.func 49) #[] #[]]) Qav rfl (Bx.kp L hS) rfl rfl)<|dh 0 rfl rfl (fun w hS => Qa0 Qne rfl)<|dh 0 rfl rfl (fun w hS => Qa2 (v := .func (.func 139) #[] #[]) Qsn rfl (Bx.kp L hS) rfl) ?_
   have ai := (((x.gr z).md k).gr l)
   refine dh 0 rfl rfl (fun w hS => Qa4 Qcn rfl (Bx.kp ai hS) rfl) ?_
   obtain ⟨x3, aj, hm⟩ := bnd hm
   refine qz [] rfl (Qcy Xdm rfl rfl (Qn4 aj)) ⟨fun _ => tk0, trivial⟩ ?_
   rintro _ a5 ⟨rfl, d⟩
   have a6 := d.size
   refine kG d ?_
   have ak := (((((((((f.gr G4).md M5).gr G6).md M7).kz K8).gr z).md k).gr l).gr d)
   refine qz [(1, b3)] rfl (Qaj Qav rfl rfl rfl ak rfl rfl) ⟨fun _ => tk0, trivial⟩ ?_
   rintro _ a7 ⟨M, m⟩
   have a8 := m.size
   refine kM m ?_
   have al := (((Kp.refl ([b3]) ah).gr d).md m)
   refine dn 0 rfl rfl al<|Qa1<|Qag<|⟨_, _, rfl, Qbk rfl (Qap Qav rfl M rfl) (Qab rfl), ?_⟩
   refine qm rfl<|qm rfl<|qm rfl<|qe rfl (Qa8 (cs := [.nilFunc, .nilFunc, .nilFunc, .nilFunc]) Qfw rfl) ?_
   rintro _ a9 ⟨ba, rfl, am, N, an⟩
   refine qe rfl (Qaj Qav rfl rfl rfl N rfl rfl) ?_
   rintro _ bb ⟨aE, ao⟩
   refine qm rfl<|qd 2 rfl<|qm rfl<|qm rfl<|Qa1 ?_
   refine Qag ?_
   have ap := ((((((((u.kz K8).trans z).md k).trans l).trans d).md m).trans an).md ao)
   cases hm
   refine ⟨_, _, rfl, Qb1 rfl (Qab rfl), ?_⟩
   exact ⟨rfl, ap⟩
 replace hm := Qyd c3 hm
 cases hm
theorem Qun {p0 p1 r} (hm : Qqw p0 p1 = some r) {w : World} :
    Calls Tryz.prog 81 [.agg (Qa7.cs p0).toArray, .agg (Qfr.cs p1).toArray].toArray w fun e w' => ∃ v, e = .returned v ∧ (v = .int .i64 r ∧ Gr w w') := by
 unfold Qqw at hm
 refine Qa5 13 Tryz.func81 rfl rfl rfl<|qs 3 rfl<|qe rfl (Qaq (cs := Qa7.cs p0) rfl rfl) ?_
 rintro _ w1 ⟨b1, rfl, i, c, G1⟩
 refine qe rfl (Qaq (cs := Qfr.cs p1) rfl rfl) ?_
 rintro _ w2 ⟨b2, rfl, j, d, G2⟩
 refine qm rfl<|Qa1<|Qa3<|qs 3 rfl ?_
 have B5 := (c.gr G2)
 refine qv rfl (Qa4 Qcn rfl B5 rfl) ?_
 obtain ⟨x1, f, hm⟩ := bnd hm
 refine qe rfl (eC Xtu rfl (Qrv f)) ?_
 rintro _ w3 ⟨rfl, G3⟩
 refine qm rfl<|qd 2 rfl<|qm rfl<|qv rfl (Qc2 (a := x1) (b := 0) rfl rfl)<|Qa1 ?_
 refine Qam rfl (fun c1 => ?_) (fun c1 => ?_)
 · replace hm := iT c1 hm
   refine qs 2 rfl<|qm rfl<|qm rfl<|Qa1<|Qag<|Qb2 ?_
   have X7 := ((((Gr.refl w).trans G1).trans G2).trans G3)
   cases hm
   refine ⟨_, _, rfl, Qb1 rfl (Qab rfl), ?_⟩
   exact ⟨rfl, X7⟩
 replace hm := iF c1 hm
 refine qu<|qs 3 rfl ?_
 have B8 := (d.gr G3)
 refine qv rfl (Qa4 Qht rfl B8 rfl) ?_
 obtain ⟨x2, g, hm⟩ := bnd hm
 refine qe rfl (eC Xgv rfl (Qhf g)) ?_
 rintro _ w4 ⟨rfl, G4⟩
 refine qm rfl<|Qa1<|Qag ?_
 have h := (((((Gr.refl w).trans G1).trans G2).trans G3).trans G4)
 cases hm
 refine ⟨_, _, rfl, Qb1 rfl (Qab rfl), ?_⟩
 exact ⟨rfl, h⟩
theorem Qr7 {p0 p1 p2 r} (hm : Qf0 p0 p1 p2 = some r) {w : World} :
    Calls Tryz.prog 13 [kv p0, .agg (Qa7.cs p1).toArray, .int .i64 p2].toArray w fun e w' => ∃ v, e = .returned v ∧ (∃ ur0_1 zr0_1 gr0_1, v = .tuple [.agg (Qae.cs r.1 ur0_1).toArray, .int .i64 r.2].toArray ∧ Own w' zr0_1 gr0_1 92 18 ur0_1 (r.1.Labels.map Qb8.cs) ∧ Hdn (zr0_1 = 0 ∨ w.heap.size ≤ gr0_1) ∧ Gr w w') := by
 unfold Qf0 at hm
 refine Qa5 27 Tryz.func13 rfl rfl rfl<|qs 4 rfl<|qe rfl (Qaq (cs := kb p0) rfl rfl) ?_
 rintro _ w1 ⟨b1, rfl, be, P, G1⟩
 have bz := P.lt
 refine qe rfl (Qaq (cs := Qa7.cs p1) rfl rfl) ?_
 rintro _ w2 ⟨b2, rfl, bf, W, G2⟩
 have bA := W.lt
 refine qe rfl (Qa8 (cs := Qae.cs (Qae.mk 0 [] (Qah.mk 0#64 0#64)) (.slice none 0 0)) Xbe rfl) ?_
 rintro _ w3 ⟨b3, rfl, bg, z, G3⟩
 have bB := z.lt
 refine qm rfl<|qd 8 rfl ?_
 have B7 := (W.gr G3)
 refine qv rfl (Qa4 Qcn rfl B7 rfl)<|Qxq 33 Tryz.func61 rfl rfl rfl Xl2 rfl rfl rfl rfl rfl<|qs 3 rfl<|qe rfl (Qaq (cs := Qa7.cs p1) rfl rfl) ?_
 rintro _ w4 ⟨b4, rfl, bh, Q, G4⟩
 have bC := Q.lt
 refine qe rfl (Qa8 (cs := [.nilFunc, .nilFunc, .nilFunc, .nilFunc]) Qfw rfl) ?_
 rintro _ w5 ⟨b5, rfl, bi, I, G5⟩
 have bj := I.lt
 refine qm rfl<|qd 3 rfl<|qv rfl (Qas (cs := [.func (.func 121) #[] #[], .func (.func 137) #[] #[], .func (.func 53) #[] #[], .func (.func 138) #[] #[]]) Qlp rfl rfl)<|qe rfl (Qa8 (cs := [.nilFunc, .nilFunc, .nilFunc, .nilFunc]) Qfw rfl) ?_
 rintro _ w6 ⟨b6, rfl, bk, X, G6⟩
 have bl := X.lt
 refine qe rfl (Qaj Qav rfl rfl rfl X rfl rfl) ?_
 rintro _ w7 ⟨R, M7⟩
 have bD := M7.size
 refine qd 8 rfl<|qv rfl (Qas (cs := [.nilFunc, .nilFunc, .nilFunc, .nilFunc]) Qlp rfl rfl)<|qv rfl (Qb6 (vs := [.func (.func 121) #[] #[], .func (.func 137) #[] #[], .func (.func 53) #[] #[], .func (.func 138) #[] #[]]) Qav rfl R rfl rfl)<|qv rfl (Qb6 (vs := [.func (.func 121) #[] #[], .func (.func 137) #[] #[], .func (.func 53) #[] #[], .func (.func 138) #[] #[]]) Qav rfl R rfl rfl)<|qv rfl (Qb6 (vs := [.func (.func 121) #[] #[], .func (.func 137) #[] #[], .func (.func 53) #[] #[], .func (.func 138) #[] #[]]) Qav rfl R rfl rfl) ?_
 refine qv rfl (Qas (cs := [.func (.func 139) #[] #[], .func (.func 140) #[] #[], .func (.func 50) #[] #[], .func (.func 49) #[] #[]]) Qlp rfl rfl)<|qv rfl (Qqh (cs := [.nilFunc, .nilFunc, .nilFunc, .nilFunc, .func (.func 121) #[] #[], .func (.func 137) #[] #[], .func (.func 53) #[] #[], .func (.func 138) #[] #[], .func (.func 121) #[] #[], .func (.func 137) #[] #[], .func (.func 53) #[] #[], .func (.func 138) #[] #[], .func (.func 121) #[] #[], .func (.func 137) #[] #[], .func (.func 53) #[] #[], .func (.func 138) #[] #[], .func (.func 139) #[] #[], .func (.func 140) #[] #[], .func (.func 50) #[] #[], .func (.func 49) #[] #[]]) Xd3 rfl rfl)<|qe rfl (Qa8 (cs := [.nilFunc, .nilFunc, .nilFunc, .nilFunc, .nilFunc, .nilFunc, .nilFunc, .nilFunc, .nilFunc, .nilFunc, .nilFunc, .nilFunc, .nilFunc, .nilFunc, .nilFunc, .nilFunc, .nilFunc, .nilFunc, .nilFunc, .nilFunc]) Qzv rfl) ?_
 rintro _ w8 ⟨b8, rfl, bm, Y, G8⟩
 have bo := Y.lt
 refine qe rfl (Qaj Qxy rfl rfl rfl Y rfl rfl) ?_
 rintro _ w9 ⟨Z, M9⟩
 have bE := M9.size
 refine Qa1<|Qa3 ?_
 have H := ((((((((((Gr.refl w).trans G1).trans G2).trans G3).trans G4).trans G5).trans G6).md M7).trans G8).md M9)
 refine qj (β := Bool) (rg 14 9) (fun a1 => [(22, .bool a1)]) (fun a1 wr => (Qeb p0 p1 p2 a1 = some r) ∧ Kz [] w9 wr) ?_ ?_
 · refine qg 9 rfl<|qv rfl (Qa0 Qi3 rfl) ?_
   have Y1 := Gr.trans G5 G6
   have aa := ((((Q.gr Y1).md M7).gr G8).md M9)
   refine qv rfl (Qa2 (v := bv p1.Kind) Qcu rfl aa rfl)<|qv rfl (Qtt (p := p1.Kind) (q := 1#8) rfl rfl)<|qp rfl (Qac rfl) (fun c6 => ?_) (fun c6 => ?_)
   · replace hm := iT c6 hm
     refine qk rfl<|qk rfl<|qk rfl<|qk rfl<|qm rfl<|Qa9 ?_
     exact ⟨rfl, true, sbq, hm, kz0⟩
   replace hm := iF c6 hm
   refine qv rfl (Qa0 Qi3 rfl)<|qv rfl (Qa2 (v := bv p1.Kind) Qcu rfl aa rfl)<|qv rfl (Qw6 Qna rfl)<|qv rfl (Qee (a := un8 p1.Kind) (b := 5) rfl rfl)<|qm rfl<|Qa9 ?_
   exact ⟨rfl, (decide ((5 : Int) ≤ un8 p1.Kind)), sbq, hm, kz0⟩
 clear hm; rintro a1 bF ⟨hm, c⟩
 have bG := c.size
 unfold Qeb at hm
 refine Qam rfl (fun c1 => ?_) (fun c1 => ?_)
 · replace hm := Qc8 c1 hm
   refine qs 3 rfl<|qv rfl (Qas (cs := [.nilFunc, .nilFunc, .nilFunc, .nilFunc]) Qlp rfl rfl) ?_
   have az := (((((I.gr G6).md M7).gr G8).md M9).kz c)
   refine qe rfl (Qaj Qav rfl rfl rfl az rfl rfl) ?_
   rintro _ bH ⟨ab, S⟩
   have bI := S.size
   refine qm rfl<|qb<|⟨_, _, rfl, Qbk rfl (Qap Qav rfl ab rfl) (Qab rfl), ?_⟩
   refine qm rfl<|qm rfl<|qm rfl<|qe rfl (Qa8 (cs := [.nilFunc, .nilFunc, .nilFunc, .nilFunc]) Qfw rfl) ?_
   rintro _ bJ ⟨bK, rfl, aA, ac, ad⟩
   refine qe rfl (Qaj Qav rfl rfl rfl ac rfl rfl) ?_
   rintro _ bL ⟨bp, ae⟩
   refine qm rfl<|Qa1<|Qa3<|qs 2 rfl<|qm rfl<|qv rfl (Qc2 (a := 2) (b := 0) rfl rfl) ?_
   refine Qa1<|Qjs rfl<|qs 4 rfl<|qv rfl (Qas (cs := Qae.cs (Qae.mk 0 [] (Qah.mk 0#64 0#64)) (.slice none 0 0)) Qy8 rfl rfl)<|qm rfl ?_
   have Y2 := Gr.trans (Gr.trans G4 G5) G6
   have aB := ((((((((z.gr Y2).md M7).gr G8).md M9).kz c).md S).gr ad).md ae)
   refine qe rfl (Qaj Qeg rfl rfl (Qae.cs_ones _ _ rfl) aB rfl rfl) ?_
   rintro _ bM ⟨af, aC⟩
   refine qm rfl<|qb ?_
   have aD := (((((H.kz c).md S).trans ad).md ae).md aC)
   cases hm
   refine ⟨_, _, rfl, Qbk rfl (Qap Qeg rfl af rfl) (Qab rfl), ?_⟩
   exact ⟨(.slice none 0 0), 0, 0, rfl, (Qax _ 0 92 18), ⟨.inl rfl⟩, aD⟩
 replace hm := Qc7 c1 hm
 refine qu<|qs 6 rfl<|qv rfl (Qa0 Qi3 rfl) ?_
 have Y3 := Gr.trans G5 G6
 have T := (((((Q.gr Y3).md M7).gr G8).md M9).kz c)
 refine qv rfl (Qa2 (v := bv p1.Kind) Qcu rfl T rfl) ?_
 by_cases c2 : (un8 p1.Kind = 1 ∨ un8 p1.Kind = 2 ∨ un8 p1.Kind = 3)
 · replace hm := Qzd c2 hm
   refine qv rfl (Quo Tryz.underlying206 (Qav).siz rfl rfl (by omega)) ?_
   have aE := (Z.kz c)
   refine qv rfl (Qb6 (vs := [.func (.func 121) #[] #[], .func (.func 137) #[] #[], .func (.func 53) #[] #[], .func (.func 138) #[] #[]]) Qav rfl aE (by rcases c2 with h | h | h <;> rw [h] <;> rfl) rfl)<|qe rfl (Qa8 (cs := [.nilFunc, .nilFunc, .nilFunc, .nilFunc]) Qfw rfl) ?_
   rintro _ bN ⟨bO, rfl, aF, L, n⟩
   have bq := L.lt
   refine qe rfl (Qaj Qav rfl rfl rfl L rfl rfl) ?_
   rintro _ bP ⟨ag, j⟩
   have bQ := j.size
   refine Qa1<|Qa3<|dw [([b5])] [] (.leaf [(0,10),(1,10),(2,10),(3,10),(4,0),(5,0),(6,10)]) ?_
   intro aG U br
   refine Qal ?_
   have ah := (ag.gr U)
   refine dh 0 rfl rfl (fun w hS => Qb6 (vs := [.func (.func 121) #[] #[], .func (.func 137) #[] #[], .func (.func 53) #[] #[], .func (.func 138) #[] #[]]) Qav rfl (Bx.kp ah hS) rfl rfl)<|dh 0 rfl rfl (fun w hS => Qa0 Qne rfl)<|dh 0 rfl rfl (fun w hS => Qa2 (v := .func (.func 121) #[] #[]) Qsn rfl (Bx.kp ah hS) rfl) ?_
   have aH := (((T.gr n).md j).gr U)
   refine dh 0 rfl rfl (fun w hS => Qa4 Qcn rfl (Bx.kp aH hS) rfl) ?_
   obtain ⟨x2, aI, hm⟩ := bnd hm
   refine qz [] rfl (Qcy Xa5 rfl rfl (Qk2 aI)) ⟨fun _ => tk0, trivial⟩ ?_
   rintro _ bR ⟨rfl, J⟩
   have bS := J.size
   refine kG J ?_
   have Y4 := Gr.trans U J
   have aJ := ((((((((I.gr G6).md M7).gr G8).md M9).kz c).gr n).md j).gr Y4)
   refine qz [(1, b5)] rfl (Qaj Qav rfl rfl rfl aJ rfl rfl) ⟨fun _ => tk0, trivial⟩ ?_
   rintro _ bT ⟨ai, k⟩
   have bU := k.size
   refine kM k ?_
   have aK := (((Kp.refl ([b5]) aG).gr J).md k)
   refine dn 0 rfl rfl aK<|Qa1<|Qag<|⟨_, _, rfl, Qbk rfl (Qap Qav rfl ai rfl) (Qab rfl), ?_⟩
   refine qm rfl<|qm rfl<|qm rfl<|qe rfl (Qa8 (cs := [.nilFunc, .nilFunc, .nilFunc, .nilFunc]) Qfw rfl) ?_
   rintro _ bV ⟨bW, rfl, aL, M, s⟩
   have bX := s.size
   have bs := M.lt
   refine qe rfl (Qaj Qav rfl rfl rfl M rfl rfl) ?_
   rintro _ bY ⟨aj, t⟩
   have bZ := t.size
   refine qm rfl<|Qa1<|Qa3<|qs 2 rfl<|qm rfl<|qv rfl (Qc2 (a := x2) (b := 0) rfl rfl) ?_
   refine Qa1<|Qam rfl (fun c3 => ?_) (fun c3 => ?_)
   · replace hm := iT c3 hm
     refine qs 4 rfl<|qv rfl (Qas (cs := Qae.cs (Qae.mk 0 [] (Qah.mk 0#64 0#64)) (.slice none 0 0)) Qy8 rfl rfl)<|qm rfl ?_
     have Y5 := Gr.trans G4 Y3
     have aM := (((((((((((z.gr Y5).md M7).gr G8).md M9).kz c).gr n).md j).gr Y4).md k).gr s).md t)
     refine qe rfl (Qaj Qeg rfl rfl (Qae.cs_ones _ _ rfl) aM rfl rfl) ?_
     rintro _ b0 ⟨ak, aN⟩
     refine qm rfl<|qb ?_
     have aO := ((((((((H.kz c).trans n).md j).trans Y4).md k).trans s).md t).md aN)
     cases hm
     refine ⟨_, _, rfl, Qbk rfl (Qap Qeg rfl ak rfl) (Qab rfl), ?_⟩
     exact ⟨(.slice none 0 0), 0, 0, rfl, (Qax _ 0 92 18), ⟨.inl rfl⟩, aO⟩
   replace hm := iF c3 hm
   refine qu<|qs 10 rfl<|qv rfl (Qa0 Xd9 rfl)<|qv rfl (Qa2 (v := .func (.func 137) #[] #[]) Xik rfl aj rfl) ?_
   have Y6 := Gr.trans (Gr.trans (Gr.trans G2 G3) G4) Y3
   have aP := (((((((((((P.gr Y6).md M7).gr G8).md M9).kz c).gr n).md j).gr Y4).md k).gr s).md t)
   refine qv rfl (Qa4 Qak rfl aP rfl) ?_
   have Y7 := Gr.trans G4 Y3
   have aQ := (((((((((((B7.gr Y7).md M7).gr G8).md M9).kz c).gr n).md j).gr Y4).md k).gr s).md t)
   refine qv rfl (Qa4 Qcn rfl aQ rfl)<|qm rfl ?_
   obtain ⟨x3, aR, hm⟩ := bnd hm
   refine qe rfl (Qcy Xs2 rfl rfl (Qx3 aR)) ?_
   rintro _ b7 ⟨B, C, D, rfl, d, f, al⟩
   refine qm rfl<|qm rfl ?_
   have aS := ((((((((((((z.gr Y7).md M7).gr G8).md M9).kz c).gr n).md j).gr Y4).md k).gr s).md t).gr al)
   refine qe rfl (Qaj Qeg rfl rfl (Qae.cs_ones _ _ (Own.oneB d)) aS rfl rfl) ?_
   rintro _ b9 ⟨am, an⟩
   refine qm rfl<|Qa1<|Qag ?_
   have aT := (d.md an (Qd7 f))
   have aU := (((((((((H.kz c).trans n).md j).trans Y4).md k).trans s).md t).trans al).md an)
   cases hm
   refine ⟨_, _, rfl, Qbk rfl (Qap Qeg rfl am rfl) (Qab rfl), ?_⟩
   exact ⟨B, C, D, rfl, aT, ⟨(Qbs (A := (fun x => w.heap.size ≤ x)) f)⟩, aU⟩
 replace hm := Qyd c2 hm
 by_cases c4 : (un8 p1.Kind = 4)
 · replace hm := Qzd c4 hm
   refine qv rfl (Quo Tryz.underlying206 (Qav).siz rfl rfl (by omega)) ?_
   have aV := (Z.kz c)
   refine qv rfl (Qb6 (vs := [.func (.func 139) #[] #[], .func (.func 140) #[] #[], .func (.func 50) #[] #[], .func (.func 49) #[] #[]]) Qav rfl aV (by rw [c4]; rfl) rfl)<|qe rfl (Qa8 (cs := [.nilFunc, .nilFunc, .nilFunc, .nilFunc]) Qfw rfl) ?_
   rintro _ ca ⟨cb, rfl, aW, N, o⟩
   have bu := N.lt
   refine qe rfl (Qaj Qav rfl rfl rfl N rfl rfl) ?_
   rintro _ cc ⟨ao, l⟩
   have cd := l.size
   refine Qa1<|Qa3<|dw [([b5])] [] (.leaf [(0,10),(1,10),(2,10),(3,10),(4,0),(5,0),(6,10)]) ?_
   intro aX V bw
   refine Qal ?_
   have ap := (ao.gr V)
   refine dh 0 rfl rfl (fun w hS => Qb6 (vs := [.func (.func 139) #[] #[], .func (.func 140) #[] #[], .func (.func 50) #[] #[], .func (.func 49) #[] #[]]) Qav rfl (Bx.kp ap hS) rfl rfl)<|dh 0 rfl rfl (fun w hS => Qa0 Qne rfl)<|dh 0 rfl rfl (fun w hS => Qa2 (v := .func (.func 139) #[] #[]) Qsn rfl (Bx.kp ap hS) rfl) ?_
   have aY := (((T.gr o).md l).gr V)
   refine dh 0 rfl rfl (fun w hS => Qa4 Qcn rfl (Bx.kp aY hS) rfl) ?_
   obtain ⟨x4, aZ, hm⟩ := bnd hm
   refine qz [] rfl (Qcy Xdm rfl rfl (Qn4 aZ)) ⟨fun _ => tk0, trivial⟩ ?_
   rintro _ ce ⟨rfl, K⟩
   have cf := K.size
   refine kG K ?_
   have Y8 := Gr.trans V K
   have a0 := ((((((((I.gr G6).md M7).gr G8).md M9).kz c).gr o).md l).gr Y8)
   refine qz [(1, b5)] rfl (Qaj Qav rfl rfl rfl a0 rfl rfl) ⟨fun _ => tk0, trivial⟩ ?_
   rintro _ cg ⟨aq, m⟩
   have ch := m.size
   refine kM m ?_
   have a2 := (((Kp.refl ([b5]) aX).gr K).md m)
   refine dn 0 rfl rfl a2<|Qa1<|Qag<|⟨_, _, rfl, Qbk rfl (Qap Qav rfl aq rfl) (Qab rfl), ?_⟩
   refine qm rfl<|qm rfl<|qm rfl<|qe rfl (Qa8 (cs := [.nilFunc, .nilFunc, .nilFunc, .nilFunc]) Qfw rfl) ?_
   rintro _ ci ⟨cj, rfl, a3, O, u⟩
   have ck := u.size
   have bx := O.lt
   refine qe rfl (Qaj Qav rfl rfl rfl O rfl rfl) ?_
   rintro _ cl ⟨ar, y⟩
   have cm := y.size
   refine qm rfl<|Qa1<|Qa3<|qs 2 rfl<|qm rfl<|qv rfl (Qc2 (a := x4) (b := 0) rfl rfl) ?_
   refine Qa1<|Qam rfl (fun c5 => ?_) (fun c5 => ?_)
   · replace hm := iT c5 hm
     refine qs 4 rfl<|qv rfl (Qas (cs := Qae.cs (Qae.mk 0 [] (Qah.mk 0#64 0#64)) (.slice none 0 0)) Qy8 rfl rfl)<|qm rfl ?_
     have Y9 := Gr.trans G4 Y3
     have a4 := (((((((((((z.gr Y9).md M7).gr G8).md M9).kz c).gr o).md l).gr Y8).md m).gr u).md y)
     refine qe rfl (Qaj Qeg rfl rfl (Qae.cs_ones _ _ rfl) a4 rfl rfl) ?_
     rintro _ cn ⟨au, a5⟩
     refine qm rfl<|qb ?_
     have a6 := ((((((((H.kz c).trans o).md l).trans Y8).md m).trans u).md y).md a5)
     cases hm
     refine ⟨_, _, rfl, Qbk rfl (Qap Qeg rfl au rfl) (Qab rfl), ?_⟩
     exact ⟨(.slice none 0 0), 0, 0, rfl, (Qax _ 0 92 18), ⟨.inl rfl⟩, a6⟩
   replace hm := iF c5 hm
   refine qu<|qs 10 rfl<|qv rfl (Qa0 Xd9 rfl)<|qv rfl (Qa2 (v := .func (.func 140) #[] #[]) Xik rfl ar rfl) ?_
   have a7 := Gr.trans (Gr.trans (Gr.trans G2 G3) G4) Y3
   have a8 := (((((((((((P.gr a7).md M7).gr G8).md M9).kz c).gr o).md l).gr Y8).md m).gr u).md y)
   refine qv rfl (Qa4 Qak rfl a8 rfl) ?_
   have av := Gr.trans G4 Y3
   have a9 := (((((((((((B7.gr av).md M7).gr G8).md M9).kz c).gr o).md l).gr Y8).md m).gr u).md y)
   refine qv rfl (Qa4 Qcn rfl a9 rfl)<|qm rfl ?_
   obtain ⟨x5, ba, hm⟩ := bnd hm
   refine qe rfl (Qcy Xpf rfl rfl (Qzg ba)) ?_
   rintro _ co ⟨E, F, G, rfl, g, i, aw⟩
   refine qm rfl<|qm rfl ?_
   have bb := ((((((((((((z.gr av).md M7).gr G8).md M9).kz c).gr o).md l).gr Y8).md m).gr u).md y).gr aw)
   refine qe rfl (Qaj Qeg rfl rfl (Qae.cs_ones _ _ (Own.oneB g)) bb rfl rfl) ?_
   rintro _ cp ⟨ax, ay⟩
   refine qm rfl<|Qa1<|Qag ?_
   have bc := (g.md ay (Qd7 i))
   have bd := (((((((((H.kz c).trans o).md l).trans Y8).md m).trans u).md y).trans aw).md ay)
   cases hm
   refine ⟨_, _, rfl, Qbk rfl (Qap Qeg rfl ax rfl) (Qab rfl), ?_⟩
   exact ⟨E, F, G, rfl, bc, ⟨(Qbs (A := (fun x => w.heap.size ≤ x)) i)⟩, bd⟩
 replace hm := Qyd c4 hm
 cases hm
theorem Qid {p0 p1 p2 p3 p4 r} (hm : Qsq p0 p1 p2 p3 p4 = some r) {w : World} :
    Calls Tryz.prog 35 [kv p0, .agg (Qa7.cs p1).toArray, .agg (Qfr.cs p2).toArray, .int .i64 p3, .int .i64 p4].toArray w fun e w' => ∃ v, e = .returned v ∧ (∃ ur0_1 zr0_1 gr0_1, v = .tuple [.agg (Qad.cs r.1 ur0_1).toArray, .int .i64 r.2].toArray ∧ Own w' zr0_1 gr0_1 92 18 ur0_1 (r.1.Secret.Labels.map Qb8.cs) ∧ Hdn (zr0_1 = 0 ∨ w.heap.size ≤ gr0_1) ∧ Gr w w') := by
 unfold Qsq at hm
 refine Qa5 48 Tryz.func35 rfl rfl rfl<|qs 5 rfl<|qe rfl (Qaq (cs := kb p0) rfl rfl) ?_
 rintro _ w1 ⟨b1, rfl, V, m, G1⟩
 have Z := m.lt
 refine qe rfl (Qaq (cs := Qa7.cs p1) rfl rfl) ?_
 rintro _ w2 ⟨b2, rfl, W, n, G2⟩
 have aa := n.lt
 refine qe rfl (Qaq (cs := Qfr.cs p2) rfl rfl) ?_
 rintro _ w3 ⟨b3, rfl, X, o, G3⟩
 have ab := o.lt
 refine qe rfl (Qa8 (cs := Qad.cs (Qad.mk (Qae.mk 0 [] (Qah.mk 0#64 0#64)) 0 (Qbh.mk (Qbl.mk false 0 k0) (Qbl.mk false 0 k0))) (.slice none 0 0)) Qp5 rfl) ?_
 rintro _ w4 ⟨b4, rfl, Y, g, G4⟩
 have ac := g.lt
 refine qm rfl<|Qa1<|Qa3<|qs 4 rfl ?_
 have Y1 := Gr.trans G3 G4
 have B9 := (n.gr Y1)
 refine qv rfl (Qa4 Qcn rfl B9 rfl) ?_
 have p := (o.gr G4)
 refine qv rfl (Qa4 Qht rfl p rfl) ?_
 obtain ⟨x1, E, hm⟩ := bnd hm
 refine qe rfl (eC Xsa rfl (Qun E)) ?_
 rintro _ w5 ⟨rfl, G5⟩
 have ad := G5.size
 refine qm rfl<|qd 2 rfl<|qm rfl<|qv rfl (Qc2 (a := x1) (b := 0) rfl rfl)<|Qa1 ?_
 refine Qam rfl (fun c1 => ?_) (fun c1 => ?_)
 · replace hm := iT c1 hm
   refine qs 4 rfl<|qv rfl (Qas (cs := Qad.cs (Qad.mk (Qae.mk 0 [] (Qah.mk 0#64 0#64)) 0 (Qbh.mk (Qbl.mk false 0 k0) (Qbl.mk false 0 k0))) (.slice none 0 0)) Xew rfl (by kernel_rfl))<|qm rfl ?_
   have F := (g.gr G5)
   refine qe rfl (Qaj Qdv rfl rfl (Qad.cs_ones _ _ rfl) F rfl rfl) ?_
   rintro _ w6 ⟨G, M6⟩
   refine qm rfl<|qb ?_
   have Y2 := Gr.trans (Gr.trans (Gr.trans G1 G2) Y1) G5
   have H := (((Gr.refl w).trans Y2).md M6)
   cases hm
   refine ⟨_, _, rfl, Qbk rfl (Qap Qdv rfl G rfl) (Qab rfl), ?_⟩
   exact ⟨(.slice none 0 0), 0, 0, rfl, (Qax _ 0 92 18), ⟨.inl rfl⟩, H⟩
 replace hm := iF c1 hm
 refine qu<|Qa3 ?_
 have Y3 := Gr.trans (Gr.trans (Gr.trans G1 G2) Y1) G5
 have k := ((Gr.refl w).trans Y3)
 refine qj (β := Bool) (rg 22 11) (fun a2 => [(32, .bool a2)]) (fun a2 wr => (Qn9 p0 p1 p3 p4 a2 = some r) ∧ Kz [] w5 wr) ?_ ?_
 · refine qg 11 rfl<|qm rfl<|qv rfl (Qa0 Qll rfl) ?_
   have q := (p.gr G5)
   refine qv rfl (Qa2 (v := .int .i64 p2.Drift) Qaw rfl q rfl)<|qv rfl (Xig (a := p2.Drift) rfl)<|qv rfl (Qcd (a := p4) (b := w64 (-p2.Drift)) rfl rfl)<|qp rfl (Qac rfl) (fun c4 => ?_) (fun c4 => ?_)
   · replace hm := iT c4 hm
     refine qk rfl<|qk rfl<|qk rfl<|qk rfl<|qm rfl<|Qa9 ?_
     exact ⟨rfl, true, sbq, hm, kz0⟩
   replace hm := iF c4 hm
   refine qm rfl<|qv rfl (Qa0 Qll rfl)<|qv rfl (Qa2 (v := .int .i64 p2.Drift) Qaw rfl q rfl)<|qv rfl (Qey (a := p4) (b := p2.Drift) rfl rfl)<|qm rfl<|Qa9 ?_
   exact ⟨rfl, (decide (p2.Drift < p4)), sbq, hm, kz0⟩
 clear hm; rintro a2 w7 ⟨hm, K7⟩
 have ae := K7.size
 unfold Qn9 at hm
 refine Qam rfl (fun c2 => ?_) (fun c2 => ?_)
 · replace hm := Qc8 c2 hm
   refine qs 3 rfl<|qv rfl (Qas (cs := Qad.cs (Qad.mk (Qae.mk 0 [] (Qah.mk 0#64 0#64)) 0 (Qbh.mk (Qbl.mk false 0 k0) (Qbl.mk false 0 k0))) (.slice none 0 0)) Xew rfl (by kernel_rfl)) ?_
   have I := ((g.gr G5).kz K7)
   refine qe rfl (Qaj Qdv rfl rfl (Qad.cs_ones _ _ rfl) I rfl rfl) ?_
   rintro _ w8 ⟨J, M8⟩
   refine qm rfl<|qb ?_
   have K := ((k.kz K7).md M8)
   cases hm
   refine ⟨_, _, rfl, Qbk rfl (Qap Qdv rfl J rfl) (Qab rfl), ?_⟩
   exact ⟨(.slice none 0 0), 0, 0, rfl, (Qax _ 0 92 18), ⟨.inl rfl⟩, K⟩
 replace hm := Qc7 c2 hm
 refine qu<|qs 10 rfl ?_
 have Y4 := Gr.trans (Gr.trans G2 Y1) G5
 have L := ((m.gr Y4).kz K7)
 refine qv rfl (Qa4 Qak rfl L rfl) ?_
 have M := ((B9.gr G5).kz K7)
 refine qv rfl (Qa4 Qcn rfl M rfl)<|qm rfl ?_
 obtain ⟨x3, N, hm⟩ := bnd hm
 refine qe rfl (eC Xqh rfl (Qr7 N)) ?_
 rintro _ w9 ⟨c, h, i, rfl, d, f, G9⟩
 have af := G9.size
 have s := d.lth
 refine qm rfl<|qm rfl<|qm rfl<|qe rfl (Qa8 (cs := Qae.cs (Qae.mk 0 [] (Qah.mk 0#64 0#64)) (.slice none 0 0)) Xbe rfl) ?_
 rintro _ ag ⟨ah, rfl, O, t, l⟩
 have u := (d.gr l)
 refine qe rfl (Qaj Qeg rfl rfl (Qae.cs_ones _ _ (Own.oneB u)) t rfl rfl) ?_
 rintro _ ai ⟨y, j⟩
 refine qm rfl<|Qa1<|Qa3<|qs 2 rfl<|qm rfl<|qv rfl (Qc2 (a := x3.2) (b := 0) rfl rfl) ?_
 refine Qa1<|Qam rfl (fun c3 => ?_) (fun c3 => ?_)
 · replace hm := iT c3 hm
   refine qs 4 rfl<|qv rfl (Qas (cs := Qad.cs (Qad.mk (Qae.mk 0 [] (Qah.mk 0#64 0#64)) 0 (Qbh.mk (Qbl.mk false 0 k0) (Qbl.mk false 0 k0))) (.slice none 0 0)) Xew rfl (by kernel_rfl))<|qm rfl ?_
   have Y5 := Gr.trans G9 l
   have P := ((((g.gr G5).kz K7).gr Y5).md j)
   refine qe rfl (Qaj Qdv rfl rfl (Qad.cs_ones _ _ rfl) P rfl rfl) ?_
   rintro _ aj ⟨z, Q⟩
   refine qm rfl<|qb ?_
   have R := ((((k.kz K7).trans Y5).md j).md Q)
   cases hm
   refine ⟨_, _, rfl, Qbk rfl (Qap Qdv rfl z rfl) (Qab rfl), ?_⟩
   exact ⟨(.slice none 0 0), 0, 0, rfl, (Qax _ 0 92 18), ⟨.inl rfl⟩, R⟩
 replace hm := iF c3 hm
 refine qu<|qs 5 rfl<|qv rfl (Qa4 Qeg rfl y rfl)<|qm rfl<|qv rfl (Qas (cs := Qad.cs (Qad.mk x3.1 p4 (Qbh.mk (Qbl.mk false 0 k0) (Qbl.mk false 0 k0))) c) Xew rfl (Qk4 rfl rfl rfl (Qk4 rfl rfl rfl (by kernel_rfl)))) ?_
 have Y6 := Gr.trans G9 l
 have S := ((((g.gr G5).kz K7).gr Y6).md j)
 have B := (u.md j (Qau s))
 refine qe rfl (Qaj Qdv rfl rfl (Qad.cs_ones _ _ (Own.oneB B)) S rfl rfl) ?_
 rintro _ ak ⟨C, D⟩
 refine qm rfl<|Qa1<|Qag ?_
 have T := (B.md D (Qd7 f))
 have U := ((((k.kz K7).trans Y6).md j).md D)
 cases hm
 refine ⟨_, _, rfl, Qbk rfl (Qap Qdv rfl C rfl) (Qab rfl), ?_⟩
 exact ⟨c, h, i, rfl, T, ⟨(Qbs (A := (fun x => w.heap.size ≤ x)) f)⟩, U⟩
end Go.Proofs.YtjdffpglgkefmaaGreat.Mx
