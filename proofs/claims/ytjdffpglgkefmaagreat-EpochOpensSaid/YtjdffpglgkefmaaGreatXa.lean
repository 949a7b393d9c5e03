/- Walks that follow mirrors: Xa. Printed by mx.py. -/
import Derived.Test.YtjdffpglgkefmaaGreatZc
import Derived.Test.YtjdffpglgkefmaaGreatZd
import Derived.Test.YtjdffpglgkefmaaGreatZe
import Derived.Test.YtjdffpglgkefmaaGreatChecked
set_option linter.unusedVariables false
set_option linter.unusedSimpArgs false
set_option maxRecDepth 100000
set_option maxHeartbeats 2000000
namespace Go.Proofs.YtjdffpglgkefmaaGreat.Mx
open Go Go.RowKit Go.Sx
theorem Qcn : Agg Tryz.prog 28 6 := fun _ => ⟨by kernel_rfl, by kernel_rfl⟩
theorem Qr8 : ZV Tryz.prog 175 (.agg [.int .u8 0, .int .i64 0, .int .i64 0].toArray) := fun _ => by kernel_rfl
theorem Qi3 : FA Tryz.prog 28 0 0 := fun _ _ _ => by kernel_rfl
theorem Qcu : One Tryz.prog 5 := fun _ => ⟨by kernel_rfl, by kernel_rfl⟩
theorem Qmr : FA Tryz.prog 28 1 1 := fun _ _ _ => by kernel_rfl
theorem Qaw : One Tryz.prog 3 := fun _ => ⟨by kernel_rfl, by kernel_rfl⟩
theorem Xpy : ZV Tryz.prog 28 (.agg [.int .u8 0, .int .i64 0, .int .i64 0, .int .u64 0, .int .u64 0, .int .u64 0].toArray) := fun _ => by kernel_rfl
theorem Xgf : Agg Tryz.prog 26 3 := fun _ => ⟨by kernel_rfl, by kernel_rfl⟩
theorem Xpx : BS Tryz.prog 28 (fun i => [(0, 1), (1, 1), (2, 1), (3, 3)][i]?) [.int .u8 0, .int .i64 0, .int .i64 0, .int .u64 0, .int .u64 0, .int .u64 0] := Qr5 Tryz.underlying28 Xpy ⟨rfl, (Qcu).siz, rfl, (Qaw).siz, rfl, (Qaw).siz, rfl, (Xgf).siz, trivial⟩
theorem Qb5 : One Tryz.prog 24 := fun _ => ⟨by kernel_rfl, by kernel_rfl⟩
theorem Xab : EqC Tryz.prog 1 24 [.i .u64] := Xcg Tryz.underlying24 Qb5
theorem Xqf : EqC Tryz.prog 2 26 [.i .u64, .i .u64, .i .u64] := Qme Tryz.underlying26 (by kernel_rfl) Xgf (show EqF _ 1 _ _ _ from (Qgd (ks1 := [.i .u64]) (ks2 := [.i .u64, .i .u64]) rfl (by simp) (Xab.up (by decide)) (Qgd (ks1 := [.i .u64]) (ks2 := [.i .u64]) rfl (by simp) (Xab.up (by decide)) (Qgd (ks1 := [.i .u64]) (ks2 := []) rfl (by simp) (Xab.up (by decide)) (Qti _)))))
theorem Xh9 : EqC Tryz.prog 1 3 [.i .i64] := Xcg Tryz.underlying3 Qaw
theorem Xs5 : EqC Tryz.prog 1 5 [.i .u8] := Xcg Tryz.underlying5 Qcu
theorem Xqs : EqC Tryz.prog 3 28 [.i .u8, .i .i64, .i .i64, .i .u64, .i .u64, .i .u64] := Qme Tryz.underlying28 (by kernel_rfl) Qcn (show EqF _ 2 _ _ _ from (Qgd (ks1 := [.i .u8]) (ks2 := [.i .i64, .i .i64, .i .u64, .i .u64, .i .u64]) rfl (by simp) (Xs5.up (by decide)) (Qgd (ks1 := [.i .i64]) (ks2 := [.i .i64, .i .u64, .i .u64, .i .u64]) rfl (by simp) (Xh9.up (by decide)) (Qgd (ks1 := [.i .i64]) (ks2 := [.i .u64, .i .u64, .i .u64]) rfl (by simp) (Xh9.up (by decide)) (Qgd (ks1 := [.i .u64, .i .u64, .i .u64]) (ks2 := []) rfl (by simp) (Xqf.up (by decide)) (Qti _))))))
theorem Xs0 : EqT Tryz.prog 28 [.i .u8, .i .i64, .i .i64, .i .u64, .i .u64, .i .u64] := ⟨by kernel_rfl, Qcn, 3, by decide, Xqs⟩
theorem Xdr : BS Tryz.prog 175 (fun i => [(0, 1), (1, 1), (2, 1)][i]?) [.int .u8 0, .int .i64 0, .int .i64 0] := Qr5 Tryz.underlying175 Qr8 ⟨rfl, (Qcu).siz, rfl, (Qaw).siz, rfl, (Qaw).siz, trivial⟩
theorem Qcf : Agg Tryz.prog 175 3 := fun _ => ⟨by kernel_rfl, by kernel_rfl⟩
theorem Qse : FA Tryz.prog 175 2 2 := fun _ _ _ => by kernel_rfl
theorem Xdz : FA Tryz.prog 175 1 1 := fun _ _ _ => by kernel_rfl
theorem Xmp : En Tryz.prog 187 := fun _ _ => by kernel_rfl
theorem Xbe : ZV Tryz.prog 33 (.agg [.int .i64 0, .slice none 0 0, .int .u64 0, .int .u64 0].toArray) := fun _ => by kernel_rfl
theorem Qjd : Agg Tryz.prog 131 2 := fun _ => ⟨by kernel_rfl, by kernel_rfl⟩
theorem Xd6 : ZV Tryz.prog 131 (.agg [.int .i64 0, .int .i64 0].toArray) := fun _ => by kernel_rfl
theorem Qpd : FA Tryz.prog 131 0 0 := fun _ _ _ => by kernel_rfl
theorem Qk7 : FA Tryz.prog 131 1 1 := fun _ _ _ => by kernel_rfl
theorem Xi7 : En Tryz.prog 189 := fun _ _ => by kernel_rfl
theorem Xlz : En Tryz.prog 198 := fun _ _ => by kernel_rfl
theorem Qlt : FA Tryz.prog 175 0 0 := fun _ _ _ => by kernel_rfl
theorem Xev : CV Tryz.prog 180 150 .u64 := fun _ _ _ => by kernel_rfl
theorem Xsh : En Tryz.prog 194 := fun _ _ => by kernel_rfl
theorem Qw5 : En Tryz.prog 192 := fun _ _ => by kernel_rfl
theorem Xft : En Tryz.prog 199 := fun _ _ => by kernel_rfl
theorem Xfz : En Tryz.prog 118 := fun _ _ => by kernel_rfl
theorem Xgh : En Tryz.prog 191 := fun _ _ => by kernel_rfl
theorem Xdh : ZV Tryz.prog 180 (.int .i64 0) := fun _ => by kernel_rfl
theorem Qg7 : One Tryz.prog 180 := fun _ => ⟨by kernel_rfl, by kernel_rfl⟩
theorem Xcw : En Tryz.prog 240 := fun _ _ => by kernel_rfl
theorem Xmw : One Tryz.prog 185 := fun _ => ⟨by kernel_rfl, by kernel_rfl⟩
theorem Xfh : En Tryz.prog 239 := fun _ _ => by kernel_rfl
theorem Xrx : En Tryz.prog 190 := fun _ _ => by kernel_rfl
theorem Xml : En Tryz.prog 117 := fun _ _ => by kernel_rfl
theorem Xih : En Tryz.prog 124 := fun _ _ => by kernel_rfl
theorem Xeb : En Tryz.prog 112 := fun _ _ => by kernel_rfl
theorem Qvg : One Tryz.prog 29 := fun _ => ⟨by kernel_rfl, by kernel_rfl⟩
theorem Qgo : Agg Tryz.prog 31 2 := fun _ => ⟨by kernel_rfl, by kernel_rfl⟩
theorem Qy8 : BS Tryz.prog 33 (fun i => [(0, 1), (1, 1), (2, 2)][i]?) [.int .i64 0, .slice none 0 0, .int .u64 0, .int .u64 0] := Qr5 Tryz.underlying33 Xbe ⟨rfl, (Qaw).siz, rfl, (Qvg).siz, rfl, (Qgo).siz, trivial⟩
theorem Qeg : Agg Tryz.prog 33 4 := fun _ => ⟨by kernel_rfl, by kernel_rfl⟩
theorem Xmk : En Tryz.prog 188 := fun _ _ => by kernel_rfl
theorem Xra : En Tryz.prog 202 := fun _ _ => by kernel_rfl
theorem Xmg : En Tryz.prog 114 := fun _ _ => by kernel_rfl
theorem Xbv : One Tryz.prog 301 := fun _ => ⟨by kernel_rfl, by kernel_rfl⟩
theorem Xe5 : En Tryz.prog 116 := fun _ _ => by kernel_rfl
theorem Xd1 : BS Tryz.prog 131 (fun i => [(0, 1), (1, 1)][i]?) [.int .i64 0, .int .i64 0] := Qr5 Tryz.underlying131 Xd6 ⟨rfl, (Qaw).siz, rfl, (Qaw).siz, trivial⟩
theorem Xiz : ZV Tryz.prog 92 (.agg [.int .i64 0, .int .i64 0, .int .u8 0, .int .u8 0, .int .u8 0, .int .u8 0, .int .u8 0, .int .u8 0, .int .u8 0, .int .u8 0, .int .u8 0, .int .u8 0, .int .u8 0, .int .u8 0, .int .u8 0, .int .u8 0, .int .u8 0, .int .u8 0].toArray) := fun _ => by kernel_rfl
theorem Qak : Agg Tryz.prog 23 16 := fun _ => ⟨by kernel_rfl, by kernel_rfl⟩
theorem Xty : BS Tryz.prog 92 (fun i => [(0, 1), (1, 1), (2, 16)][i]?) [.int .i64 0, .int .i64 0, .int .u8 0, .int .u8 0, .int .u8 0, .int .u8 0, .int .u8 0, .int .u8 0, .int .u8 0, .int .u8 0, .int .u8 0, .int .u8 0, .int .u8 0, .int .u8 0, .int .u8 0, .int .u8 0, .int .u8 0, .int .u8 0] := Qr5 Tryz.underlying92 Xiz ⟨rfl, (Qaw).siz, rfl, (Qaw).siz, rfl, (Qak).siz, trivial⟩
theorem Quq : Agg Tryz.prog 92 18 := fun _ => ⟨by kernel_rfl, by kernel_rfl⟩
theorem Xcj : FA Tryz.prog 92 0 0 := fun _ _ _ => by kernel_rfl
theorem Qeo : ZV Tryz.prog 23 (.agg [.int .u8 0, .int .u8 0, .int .u8 0, .int .u8 0, .int .u8 0, .int .u8 0, .int .u8 0, .int .u8 0, .int .u8 0, .int .u8 0, .int .u8 0, .int .u8 0, .int .u8 0, .int .u8 0, .int .u8 0, .int .u8 0].toArray) := fun _ => by kernel_rfl
theorem Xhb : CV Tryz.prog 180 24 .u64 := fun _ _ _ => by kernel_rfl
theorem Qpe : En Tryz.prog 48 := fun _ _ => by kernel_rfl
theorem Xha : En Tryz.prog 195 := fun _ _ => by kernel_rfl
theorem Xgn : En Tryz.prog 197 := fun _ _ => by kernel_rfl
theorem Xm0 : En Tryz.prog 196 := fun _ _ => by kernel_rfl
theorem Xmm : En Tryz.prog 122 := fun _ _ => by kernel_rfl
theorem Qz6 : FA Tryz.prog 92 2 2 := fun _ _ _ => by kernel_rfl
theorem Qtw : FA Tryz.prog 33 1 1 := fun _ _ _ => by kernel_rfl
theorem Xk7 : BSl Tryz.prog 29 1 92 18 [.int .i64 0, .int .i64 0, .int .u8 0, .int .u8 0, .int .u8 0, .int .u8 0, .int .u8 0, .int .u8 0, .int .u8 0, .int .u8 0, .int .u8 0, .int .u8 0, .int .u8 0, .int .u8 0, .int .u8 0, .int .u8 0, .int .u8 0, .int .u8 0] := Qr9 Tryz.underlying29 (Quq).siz Xiz rfl rfl (by kernel_rfl)
theorem Xlu : ApT Tryz.prog 29 92 18 32 := Qug Tryz.underlying29 rfl (by kernel_rfl)
theorem Xrs : En Tryz.prog 251 := fun _ _ => by kernel_rfl
theorem Qpx : BZ Tryz.prog 23 (kv k0) := fun _ => by kernel_rfl
theorem Qhu : FA Tryz.prog 48 0 0 := fun _ _ _ => by kernel_rfl
theorem Qkf : One Tryz.prog 45 := fun _ => ⟨by kernel_rfl, by kernel_rfl⟩
theorem Qou : FA Tryz.prog 48 1 1 := fun _ _ _ => by kernel_rfl
theorem Qgi : FA Tryz.prog 48 2 2 := fun _ _ _ => by kernel_rfl
theorem Qix : One Tryz.prog 46 := fun _ => ⟨by kernel_rfl, by kernel_rfl⟩
theorem Qry : FA Tryz.prog 48 3 3 := fun _ _ _ => by kernel_rfl
theorem Xhr : EqC Tryz.prog 2 23 [.i .u8, .i .u8, .i .u8, .i .u8, .i .u8, .i .u8, .i .u8, .i .u8, .i .u8, .i .u8, .i .u8, .i .u8, .i .u8, .i .u8, .i .u8, .i .u8] := Xii (ks := [.i .u8]) Tryz.underlying23 (Xui (by kernel_rfl)).choose_spec (by kernel_rfl) Qak Xs5
theorem Qqd : EqT Tryz.prog 23 [.i .u8, .i .u8, .i .u8, .i .u8, .i .u8, .i .u8, .i .u8, .i .u8, .i .u8, .i .u8, .i .u8, .i .u8, .i .u8, .i .u8, .i .u8, .i .u8] := ⟨by kernel_rfl, Qak, 2, by decide, Xhr⟩
theorem Qia : Agg Tryz.prog 133 18 := fun _ => ⟨by kernel_rfl, by kernel_rfl⟩
theorem Qnk : FA Tryz.prog 133 0 0 := fun _ _ _ => by kernel_rfl
theorem Xsq : En Tryz.prog 123 := fun _ _ => by kernel_rfl
theorem Xm7 : En Tryz.prog 200 := fun _ _ => by kernel_rfl
theorem Xln : En Tryz.prog 125 := fun _ _ => by kernel_rfl
theorem Xdx : ZV Tryz.prog 133 (.agg [.int .i64 0, .int .i64 0, .int .u8 0, .int .u8 0, .int .u8 0, .int .u8 0, .int .u8 0, .int .u8 0, .int .u8 0, .int .u8 0, .int .u8 0, .int .u8 0, .int .u8 0, .int .u8 0, .int .u8 0, .int .u8 0, .int .u8 0, .int .u8 0].toArray) := fun _ => by kernel_rfl
theorem Xbb : FA Tryz.prog 92 1 1 := fun _ _ _ => by kernel_rfl
theorem Xrn : En Tryz.prog 201 := fun _ _ => by kernel_rfl
theorem Xrb : En Tryz.prog 126 := fun _ _ => by kernel_rfl
theorem Xdk : FA Tryz.prog 133 1 2 := fun _ _ _ => by kernel_rfl
theorem Xe4 : En Tryz.prog 111 := fun _ _ => by kernel_rfl
theorem Qtf : FA Tryz.prog 48 4 19 := fun _ _ _ => by kernel_rfl
theorem Xr8 : En Tryz.prog 113 := fun _ _ => by kernel_rfl
theorem Xb3 : BSl Tryz.prog 107 1 131 2 [.int .i64 0, .int .i64 0] := Qr9 Tryz.underlying107 (Qjd).siz Xd6 rfl rfl (by kernel_rfl)
theorem Qru : MpT Tryz.prog 179 180 4 := ⟨Tryz.underlying179, Tryz.underlying180, fun _ => by kernel_rfl⟩
theorem Xrh : ZV Tryz.prog 107 (.slice none 0 0) := fun _ => by kernel_rfl
theorem Qyt : One Tryz.prog 107 := fun _ => ⟨by kernel_rfl, by kernel_rfl⟩
theorem Xn2 : ApT Tryz.prog 107 131 2 16 := Qug Tryz.underlying107 rfl (by kernel_rfl)
theorem Xg8 : En Tryz.prog 115 := fun _ _ => by kernel_rfl
theorem Xri : En Tryz.prog 119 := fun _ _ => by kernel_rfl
theorem Quy : ZV Tryz.prog 48 (.agg [.slice none 0 0, .int .u64 0, .slice none 0 0, .int .u8 0, .int .u8 0, .int .u8 0, .int .u8 0, .int .u8 0, .int .u8 0, .int .u8 0, .int .u8 0, .int .u8 0, .int .u8 0, .int .u8 0, .int .u8 0, .int .u8 0, .int .u8 0, .int .u8 0, .int .u8 0, .int .u8 0, .int .u8 0, .int .u8 0, .int .u8 0, .int .u8 0, .int .u8 0, .int .u8 0, .int .u8 0, .int .u8 0, .int .u8 0, .int .u8 0, .int .u8 0, .int .u8 0, .int .u8 0, .int .u8 0, .int .u8 0].toArray) := fun _ => by kernel_rfl
theorem Xa5 : En Tryz.prog 121 := fun _ _ => by kernel_rfl
theorem Qr4 : BS Tryz.prog 48 (fun i => [(0, 1), (1, 1), (2, 1), (3, 16), (19, 16)][i]?) [.slice none 0 0, .int .u64 0, .slice none 0 0, .int .u8 0, .int .u8 0, .int .u8 0, .int .u8 0, .int .u8 0, .int .u8 0, .int .u8 0, .int .u8 0, .int .u8 0, .int .u8 0, .int .u8 0, .int .u8 0, .int .u8 0, .int .u8 0, .int .u8 0, .int .u8 0, .int .u8 0, .int .u8 0, .int .u8 0, .int .u8 0, .int .u8 0, .int .u8 0, .int .u8 0, .int .u8 0, .int .u8 0, .int .u8 0, .int .u8 0, .int .u8 0, .int .u8 0, .int .u8 0, .int .u8 0, .int .u8 0] := Qr5 Tryz.underlying48 Quy ⟨rfl, (Qkf).siz, rfl, (Qb5).siz, rfl, (Qix).siz, rfl, (Qak).siz, rfl, (Qak).siz, trivial⟩
theorem Qcs : Agg Tryz.prog 48 35 := fun _ => ⟨by kernel_rfl, by kernel_rfl⟩
theorem Xep : En Tryz.prog 96 := fun _ _ => by kernel_rfl
theorem Xsc : BS Tryz.prog 133 (fun i => [(0, 2), (2, 16)][i]?) [.int .i64 0, .int .i64 0, .int .u8 0, .int .u8 0, .int .u8 0, .int .u8 0, .int .u8 0, .int .u8 0, .int .u8 0, .int .u8 0, .int .u8 0, .int .u8 0, .int .u8 0, .int .u8 0, .int .u8 0, .int .u8 0, .int .u8 0, .int .u8 0] := Qr5 Tryz.underlying133 Xdx ⟨rfl, (Qjd).siz, rfl, (Qak).siz, trivial⟩
theorem Xl1 : BSl Tryz.prog 45 1 133 18 [.int .i64 0, .int .i64 0, .int .u8 0, .int .u8 0, .int .u8 0, .int .u8 0, .int .u8 0, .int .u8 0, .int .u8 0, .int .u8 0, .int .u8 0, .int .u8 0, .int .u8 0, .int .u8 0, .int .u8 0, .int .u8 0, .int .u8 0, .int .u8 0] := Qr9 Tryz.underlying45 (Qia).siz Xdx rfl rfl (by kernel_rfl)
theorem Xrc : ApT Tryz.prog 45 133 18 32 := Qug Tryz.underlying45 rfl (by kernel_rfl)
theorem Qra {p0 r} (hm : Qjg p0 = some r) {w : World} :
    Calls Tryz.prog 187 [.agg (Qa7.cs p0).toArray].toArray w fun e w' => ∃ v, e = .returned v ∧ (v = .tuple [.agg (Qa6.cs r.1).toArray, .bool r.2].toArray ∧ Gr w w') := by
 unfold Qjg at hm
 refine Qa5 51 Tryz.func187 rfl rfl rfl<|qs 3 rfl<|qe rfl (Qaq (cs := Qa7.cs p0) rfl rfl) ?_
 rintro _ w1 ⟨b1, rfl, y, f, G1⟩
 have C := f.lt
 refine qe rfl (Qa8 (cs := Qa6.cs (Qa6.mk 0#8 0 0)) Qr8 rfl) ?_
 rintro _ w2 ⟨b2, rfl, z, g, G2⟩
 have D := g.lt
 refine qm rfl<|Qa1<|Qa3 ?_
 have X5 := (((Gr.refl w).trans G1).trans G2)
 refine qj (β := Bool) (rg 5 27) (fun a1 => [(31, .bool a1)]) (fun a1 wr => (Qec p0 a1 = some r) ∧ Kz [] w2 wr) ?_ ?_
 · refine qg 27 rfl<|qv rfl (Qa0 Qi3 rfl) ?_
   have d := (f.gr G2)
   refine qv rfl (Qa2 (v := bv p0.Kind) Qcu rfl d rfl)<|qv rfl (Qtt (p := p0.Kind) (q := 1#8) rfl rfl)<|qp rfl (Qac rfl) (fun c3 => ?_) (fun c3 => ?_)
   · replace hm := iT c3 hm
     refine qk rfl<|qk rfl<|qk rfl<|qm rfl<|qm rfl<|qk rfl<|qk rfl ?_
     refine qk rfl<|qm rfl<|qm rfl<|qk rfl<|qk rfl<|qk rfl<|qm rfl ?_
     refine qm rfl<|qk rfl<|qk rfl<|qk rfl<|qk rfl<|qk rfl<|qk rfl ?_
     refine qk rfl<|qm rfl<|Qa9 ?_
     exact ⟨rfl, true, sbq, hm, kz0⟩
   replace hm := iF c3 hm
   refine qv rfl (Qa0 Qi3 rfl)<|qv rfl (Qa2 (v := bv p0.Kind) Qcu rfl d rfl)<|qv rfl (Xid (p := p0.Kind) (q := 3#8) rfl rfl)<|qm rfl<|qp rfl (Qac rfl) (fun c4 => ?_) (fun c4 => ?_)
   · replace hm := iT c4 hm
     refine qk rfl<|qk rfl<|qk rfl<|qm rfl<|qm rfl<|qk rfl<|qk rfl ?_
     refine qk rfl<|qm rfl<|qm rfl<|qk rfl<|qk rfl<|qk rfl<|qk rfl ?_
     refine qk rfl<|qk rfl<|qk rfl<|qm rfl<|Qa9 ?_
     exact ⟨rfl, true, sbq, hm, kz0⟩
   replace hm := iF c4 hm
   refine qv rfl (Qa0 Qmr rfl)<|qv rfl (Qa2 (v := .int .i64 p0.Depth) Qaw rfl d rfl)<|qv rfl (Qcd (a := p0.Depth) (b := 0) rfl rfl)<|qm rfl<|qp rfl (Qac rfl) (fun c5 => ?_) (fun c5 => ?_)
   · replace hm := iT c5 hm
     refine qk rfl<|qk rfl<|qk rfl<|qm rfl<|qm rfl<|qk rfl<|qk rfl ?_
     refine qk rfl<|qk rfl<|qk rfl<|qk rfl<|qk rfl<|qm rfl<|Qa9 ?_
     exact ⟨rfl, true, sbq, hm, kz0⟩
   replace hm := iF c5 hm
   refine qv rfl (Qa0 Qmr rfl)<|qv rfl (Qa2 (v := .int .i64 p0.Depth) Qaw rfl d rfl)<|qv rfl (Qey (a := p0.Depth) (b := 6) rfl rfl)<|qm rfl<|qp rfl (Qac rfl) (fun c6 => ?_) (fun c6 => ?_)
   · replace hm := iT c6 hm
     refine qk rfl<|qk rfl<|qk rfl<|qk rfl<|qk rfl<|qk rfl<|qk rfl ?_
     refine qm rfl<|Qa9 ?_
     exact ⟨rfl, true, sbq, hm, kz0⟩
   replace hm := iF c6 hm
   refine qv rfl (Qa4 Qcn rfl d rfl)<|qv rfl (Qa0 Qi3 rfl)<|qv rfl (Qa2 (v := bv p0.Kind) Qcu rfl d rfl)<|qv rfl (Qa0 Qmr rfl)<|qv rfl (Qa2 (v := .int .i64 p0.Depth) Qaw rfl d rfl)<|qv rfl (Qas (cs := Qa7.cs (Qa7.mk p0.Kind p0.Depth 0 (Qei.mk 0#64 0#64 0#64))) Xpx rfl rfl)<|qv rfl (Qmu (cf := Qa7.cs) (a := p0) (b := (Qa7.mk p0.Kind p0.Depth 0 (Qei.mk 0#64 0#64 0#64))) Xs0 rfl rfl rfl rfl (fun h => Qa7.cs_inj h)) ?_
   refine qm rfl<|Qa9 ?_
   exact ⟨rfl, (decide (p0 ≠ (Qa7.mk p0.Kind p0.Depth 0 (Qei.mk 0#64 0#64 0#64)))), sbq, hm, kz0⟩
 clear hm; rintro a1 w3 ⟨hm, K3⟩
 have z6 := K3.size
 unfold Qec at hm
 refine Qam rfl (fun c1 => ?_) (fun c1 => ?_)
 · replace hm := Qc8 c1 hm
   refine qs 3 rfl<|qv rfl (Qas (cs := Qa6.cs (Qa6.mk 0#8 0 0)) Xdr rfl rfl) ?_
   have B7 := (g.kz K3)
   refine qe rfl (Qaj Qcf rfl rfl rfl B7 rfl rfl) ?_
   rintro _ w4 ⟨l, M4⟩
   refine qm rfl<|qb ?_
   have X9 := ((X5.kz K3).md M4)
   cases hm
   refine ⟨_, _, rfl, Qbk rfl (Qap Qcf rfl l rfl) (Qab rfl), ?_⟩
   exact ⟨rfl, X9⟩
 replace hm := Qc7 c1 hm
 refine qu<|qs 7 rfl<|qv rfl (Qa0 Qi3 rfl) ?_
 have j := ((f.gr G2).kz K3)
 refine qv rfl (Qa2 (v := bv p0.Kind) Qcu rfl j rfl)<|qv rfl (Qa0 Qmr rfl)<|qv rfl (Qa2 (v := .int .i64 p0.Depth) Qaw rfl j rfl)<|qv rfl (Qas (cs := Qa6.cs (Qa6.mk p0.Kind p0.Depth 1)) Xdr rfl rfl)<|qe rfl (Qa8 (cs := Qa6.cs (Qa6.mk 0#8 0 0)) Qr8 rfl) ?_
 rintro _ w5 ⟨b5, rfl, A, m, G5⟩
 refine qe rfl (Qaj Qcf rfl rfl rfl m rfl rfl) ?_
 rintro _ w6 ⟨n, M6⟩
 refine Qa1<|Qa3<|Qan ?_
 have o := (((X5.kz K3).trans G5).md M6)
 refine Qbj (α := Nat × Int) (rg 38 12) (fun ⟨n2, a3⟩ => []) (fun ⟨n2, a3⟩ wr => (Qc3 (Qf9 p0) n2 a3 = some r) ∧ Bx wr b5 175 (Qa6.cs (Qa6.mk p0.Kind p0.Depth a3)) ∧ Kz [(1, b5)] w6 wr) (fun ⟨n2, a3⟩ => n2) ⟨Qcw, 1⟩ ?_ ?_ ?_
 · exact sbq
 · exact ⟨hm, n, Kz.refl _ _⟩
 clear hm; rintro ⟨n2, a3⟩ w7 ⟨hm, c, K7⟩
 have hb := Qbv hm; clear hm; obtain ⟨n2, rfl, hm⟩ := hb
 generalize i : Qc3 (Qf9 p0) n2 = B at hm
 unfold Qf9 at hm
 try dsimp only at hm
 refine Qa3<|qs 8 rfl<|qv rfl (Qa0 Qse rfl)<|qv rfl (Qa2 (v := .int .i64 a3) Qaw rfl c rfl)<|qv rfl (Qa0 Qse rfl)<|qv rfl (Qa2 (v := .int .i64 a3) Qaw rfl c rfl) ?_
 refine qv rfl (Qjl (k := .i64) (a := a3) (b := a3) rfl rfl)<|qv rfl (Qa0 Xdz rfl)<|qv rfl (Qa2 (v := .int .i64 p0.Depth) Qaw rfl c rfl)<|qv rfl (Qcd (a := w64 (a3 * a3)) (b := p0.Depth) rfl rfl)<|Qa1<|Qam rfl (fun c2 => ?_) (fun c2 => ?_)
 · replace hm := iT c2 hm
   refine qu<|Qan<|qg 5 rfl<|qv rfl (Qa0 Qse rfl)<|qv rfl (Qa2 (v := .int .i64 a3) Qaw rfl c rfl)<|qv rfl (Qce (k := .i64) (a := a3) (b := 1) rfl rfl) ?_
   refine qv rfl (Qa0 Qse rfl)<|qe rfl (Qe9 (cs' := Qa6.cs (Qa6.mk p0.Kind p0.Depth (w64 (a3 + 1)))) (Qaw).siz rfl rfl rfl c rfl rfl) ?_
   rintro _ w8 ⟨s, M8⟩
   refine Qa9<|Qay ?_
   have K_18 : Kz [(1, b5)] w6 w8 := (K7.md M8)
   subst i
   exact ⟨rfl, ⟨n2, w64 (a3 + 1)⟩, sbq, ⟨hm, s, K_18⟩, Nat.lt_succ_self _⟩
 replace hm := iF c2 hm
 refine Qbp<|Qb4<|Qb4<|Qbq<|Qaz<|qs 3 rfl ?_
 refine qv rfl (Qa4 Qcf rfl c rfl) ?_
 have t := ((((g.kz K3).gr G5).md M6).kz K7)
 refine qe rfl (Qaj Qcf rfl rfl rfl t rfl rfl) ?_
 rintro _ w9 ⟨u, M9⟩
 refine qm rfl<|Qa1<|Qag ?_
 have x := ((o.kz K7).md M9)
 cases hm
 refine ⟨_, _, rfl, Qbk rfl (Qap Qcf rfl u rfl) (Qab rfl), ?_⟩
 exact ⟨rfl, x⟩
theorem Qk2 {p0 r} (hm : Qen p0 = some r) {w : World} :
    Calls Tryz.prog 121 [.agg (Qa7.cs p0).toArray].toArray w fun e w' => ∃ v, e = .returned v ∧ (v = .int .i64 r ∧ Gr w w') := by
 unfold Qen at hm
 refine Qa5 12 Tryz.func121 rfl rfl rfl<|qs 2 rfl<|qe rfl (Qaq (cs := Qa7.cs p0) rfl rfl) ?_
 rintro _ w1 ⟨b1, rfl, d, a, G1⟩
 have g := a.lt
 refine qm rfl<|Qa1<|Qa3<|qs 8 rfl<|qv rfl (Qa4 Qcn rfl a rfl) ?_
 obtain ⟨x1, b, hm⟩ := bnd hm
 refine qe rfl (eC Xmp rfl (Qra b)) ?_
 rintro _ w2 ⟨rfl, G2⟩
 have z3 := G2.size
 refine qm rfl<|qm rfl<|qm rfl<|qe rfl (Qa8 (cs := Qa6.cs (Qa6.mk 0#8 0 0)) Qr8 rfl) ?_
 rintro _ w3 ⟨b3, rfl, f, c, G3⟩
 refine qe rfl (Qaj Qcf rfl rfl rfl c rfl rfl) ?_
 rintro _ w4 ⟨h, M4⟩
 refine qm rfl<|qd 2 rfl<|qm rfl<|qv rfl (Qci rfl)<|Qa1 ?_
 refine Qam rfl (fun c1 => ?_) (fun c1 => ?_)
 · replace hm := Qc8 c1 hm
   refine qs 1 rfl<|qm rfl<|qb ?_
   have X7 := (((((Gr.refl w).trans G1).trans G2).trans G3).md M4)
   cases hm
   refine ⟨_, _, rfl, Qb1 rfl (Qab rfl), ?_⟩
   exact ⟨rfl, X7⟩
 replace hm := Qc7 c1 hm
 refine qu<|qs 1 rfl<|qm rfl<|Qa1<|Qag ?_
 have X8 := (((((Gr.refl w).trans G1).trans G2).trans G3).md M4)
 cases hm
 refine ⟨_, _, rfl, Qb1 rfl (Qab rfl), ?_⟩
 exact ⟨rfl, X8⟩
theorem Qki {p0 r} (hm : Qfh p0 = some r) {w : World} :
    Calls Tryz.prog 189 [.agg (Qa6.cs p0).toArray].toArray w fun e w' => ∃ v, e = .returned v ∧ (v = .int .i64 r ∧ Gr w w') := by
 unfold Qfh at hm
 refine Qa5 6 Tryz.func189 rfl rfl rfl<|qs 2 rfl<|qe rfl (Qaq (cs := Qa6.cs p0) rfl rfl) ?_
 rintro _ w1 ⟨b1, rfl, d, c, G1⟩
 refine qm rfl<|qd 4 rfl<|qv rfl (Qa0 Xdz rfl)<|qv rfl (Qa2 (v := .int .i64 p0.depth) Qaw rfl c rfl) ?_
 obtain ⟨n1, hn1, hm⟩ := bnd hm
 refine qv rfl (Qu1 (a := 1) (b := p0.depth) rfl rfl hn1)<|qm rfl<|Qa1<|Qag ?_
 have X3 := ((Gr.refl w).trans G1)
 cases hm
 refine ⟨_, _, rfl, Qb1 rfl (Qab rfl), ?_⟩
 exact ⟨rfl, X3⟩
theorem Qpm {p0 p1 r} (hm : Qhj p0 p1 = some r) {w : World} :
    Calls Tryz.prog 198 [.agg (Qa6.cs p0).toArray, .int .i64 p1].toArray w fun e w' => ∃ v, e = .returned v ∧ (v = .bool r ∧ Gr w w') := by
 unfold Qhj at hm
 refine Qa5 14 Tryz.func198 rfl rfl rfl<|qs 2 rfl<|qe rfl (Qaq (cs := Qa6.cs p0) rfl rfl) ?_
 rintro _ w1 ⟨b1, rfl, f, c, G1⟩
 refine qm rfl<|qd 10 rfl<|qm rfl<|qv rfl (Qee (a := p1) (b := 1) rfl rfl)<|qpF rfl (Qac rfl) (fun c1 => ?_) (fun c1 => ?_)
 · replace hm := iF c1 hm
   refine qk rfl<|qk rfl<|qk rfl<|qk rfl<|qk rfl<|qm rfl<|qm rfl ?_
   refine Qa1<|Qag ?_
   have X5 := ((Gr.refl w).trans G1)
   cases hm
   refine ⟨_, _, rfl, Qb1 rfl (Qab rfl), ?_⟩
   exact ⟨rfl, X5⟩
 replace hm := iT c1 hm
 refine qm rfl<|qv rfl (Qa4 Qcf rfl c rfl) ?_
 obtain ⟨x1, d, hm⟩ := bnd hm
 refine qe rfl (eC Xi7 rfl (Qki d)) ?_
 rintro _ w2 ⟨rfl, G2⟩
 refine qv rfl (Qjl (k := .i64) (a := 2) (b := x1) rfl rfl)<|qv rfl (Qcd (a := p1) (b := w64 (2 * x1)) rfl rfl)<|qm rfl<|qm rfl<|Qa1<|Qag ?_
 have X4 := (((Gr.refl w).trans G1).trans G2)
 cases hm
 refine ⟨_, _, rfl, Qb1 rfl (Qab rfl), ?_⟩
 exact ⟨rfl, X4⟩
theorem Qdn {p0 r} (hm : Qcq p0 = some r) {w : World} :
    Calls Tryz.prog 192 [.int .i64 p0].toArray w fun e w' => ∃ v, e = .returned v ∧ (v = .int .i64 r ∧ Gr w w') := by
 unfold Qcq at hm
 refine Qa5 7 Tryz.func192 rfl rfl rfl<|qs 1 rfl<|qm rfl<|qd 5 rfl ?_
 refine qm rfl<|qv rfl (Qfe Xev rfl)<|qe rfl (eC Xsh rfl (Xtx (un (wd p0)) (Qst _) (by have := Xr4 (wd p0); omega) _)) ?_
 rintro _ w1 ⟨rfl, G1⟩
 refine qv rfl (Qi7 (k := .i64) (a := lg (un (wd p0))) (b := 1) rfl rfl)<|qm rfl<|Qa1<|Qag ?_
 have X2 := ((Gr.refl w).trans G1)
 cases hm
 refine ⟨_, _, rfl, Qb1 rfl (Qab rfl), ?_⟩
 exact ⟨rfl, X2⟩
theorem Qk3 {p0 p1 r} (hm : Qbz p0 p1 = some r) {w : World} :
    Calls Tryz.prog 199 [.int .i64 p0, .int .i64 p1].toArray w fun e w' => ∃ v, e = .returned v ∧ (v = .bool r ∧ Gr w w') := by
 unfold Qbz at hm
 refine Qa5 27 Tryz.func199 rfl rfl rfl<|qs 1 rfl<|qm rfl<|Qa1<|Qa3<|qj (β := Bool) (rg 5 13) (fun a1 => [(17, .bool a1)]) (fun a1 wr => (Qd0 p0 p1 a1 = some r) ∧ Kz [] w wr) ?_ ?_
 · refine qg 13 rfl<|qm rfl<|qv rfl (Qcd (a := p0) (b := 1) rfl rfl)<|qp rfl (Qac rfl) (fun c2 => ?_) (fun c2 => ?_)
   · replace hm := iT c2 hm
     refine qk rfl<|qk rfl<|qm rfl<|qm rfl<|qk rfl<|qk rfl<|qk rfl ?_
     refine qk rfl<|qk rfl<|qm rfl<|Qa9 ?_
     exact ⟨rfl, true, sbq, hm, kz0⟩
   replace hm := iF c2 hm
   refine qm rfl<|qv rfl (Qcd (a := p1) (b := 1) rfl rfl)<|qm rfl<|qp rfl (Qac rfl) (fun c3 => ?_) (fun c3 => ?_)
   · replace hm := iT c3 hm
     refine qk rfl<|qk rfl<|qk rfl<|qk rfl<|qk rfl<|qm rfl<|Qa9 ?_
     exact ⟨rfl, true, sbq, hm, kz0⟩
   replace hm := iF c3 hm
   refine qm rfl ?_
   obtain ⟨x5, c, hm⟩ := bnd hm
   refine qe rfl (eC Qw5 rfl (Qdn c)) ?_
   rintro _ w4 ⟨rfl, G4⟩
   refine qm rfl ?_
   obtain ⟨x6, d, hm⟩ := bnd hm
   refine qe rfl (eC Qw5 rfl (Qdn d)) ?_
   rintro _ w5 ⟨rfl, G5⟩
   refine qv rfl (Qcd (a := x5) (b := x6) rfl rfl)<|qm rfl<|Qa9 ?_
   exact ⟨rfl, (decide (x5 < x6)), sbq, hm, ((kz0.gr G4).gr G5)⟩
 clear hm; rintro a1 w1 ⟨hm, K1⟩
 unfold Qd0 at hm
 refine Qam rfl (fun c1 => ?_) (fun c1 => ?_)
 · replace hm := Qc8 c1 hm
   refine qs 1 rfl<|qm rfl<|qb ?_
   have X2 := ((Gr.refl w).kz K1)
   cases hm
   refine ⟨_, _, rfl, Qb1 rfl (Qab rfl), ?_⟩
   exact ⟨rfl, X2⟩
 replace hm := Qc7 c1 hm
 refine qu<|qs 10 rfl<|qm rfl<|qm rfl ?_
 obtain ⟨x2, f, hm⟩ := bnd hm
 refine qe rfl (eC Qw5 rfl (Qdn f)) ?_
 rintro _ w2 ⟨rfl, G2⟩
 refine qm rfl ?_
 obtain ⟨x3, g, hm⟩ := bnd hm
 refine qe rfl (eC Qw5 rfl (Qdn g)) ?_
 rintro _ w3 ⟨rfl, G3⟩
 refine qv rfl (Qi7 (k := .i64) (a := x2) (b := x3) rfl rfl) ?_
 obtain ⟨n4, hn4, hm⟩ := bnd hm
 refine qv rfl (Qze (a := p0) (b := (w64 (x2 - x3))) rfl rfl hn4)<|qm rfl<|qv rfl (Qeh (a := Xk0 p0 n4) (b := p1) rfl rfl)<|qm rfl<|Qa1<|Qag ?_
 have X5 := ((((Gr.refl w).kz K1).trans G2).trans G3)
 cases hm
 refine ⟨_, _, rfl, Qb1 rfl (Qab rfl), ?_⟩
 exact ⟨rfl, X5⟩
theorem Qiq {p0 p1 r} (hm : Qcm p0 p1 = some r) {w : World} :
    Calls Tryz.prog 118 [.agg (Qa6.cs p0).toArray, .int .i64 p1].toArray w fun e w' => ∃ v, e = .returned v ∧ (v = .bool r ∧ Gr w w') := by
 unfold Qcm at hm
 refine Qa5 11 Tryz.func118 rfl rfl rfl<|qs 2 rfl<|qe rfl (Qaq (cs := Qa6.cs p0) rfl rfl) ?_
 rintro _ w1 ⟨b1, rfl, g, c, G1⟩
 refine qm rfl<|Qa1<|Qa3<|dw [([])] [] (.leaf [(0,10),(2,10),(3,10),(1,0),(4,10),(5,10),(6,10)]) ?_
 intro w2 G2 h
 refine Qal<|dm 0 rfl rfl<|dh 0 rfl rfl (fun w hS => Qa0 Qse rfl) ?_
 have B3 := (c.gr G2)
 refine dh 0 rfl rfl (fun w hS => Qa2 (v := .int .i64 p0.stride) Qaw rfl (Bx.kp B3 hS) rfl) ?_
 obtain ⟨x1, d, hm⟩ := bnd hm
 refine qz [] rfl (eC Qw5 rfl (Qdn d)) ⟨fun _ => tk0, trivial⟩ ?_
 rintro _ w3 ⟨rfl, G3⟩
 refine kG G3 ?_
 obtain ⟨x2, f, hm⟩ := bnd hm
 have S5 := ((Kp.refl ([]) w2).gr G3)
 refine qh 0 rfl rfl S5 (fun w hS => Qjv (a := x1) (b := p0.stride) rfl rfl f)<|qh 0 rfl rfl S5 (fun w hS => Qeh (a := x2) (b := 0) rfl rfl)<|dn 0 rfl rfl S5<|Qa1<|Qag ?_
 have X6 := ((((Gr.refl w).trans G1).trans G2).trans G3)
 cases hm
 refine ⟨_, _, rfl, Qb1 rfl (Qab rfl), ?_⟩
 exact ⟨rfl, X6⟩
theorem Qq2 {p0 p1 r} (hm : Qkt p0 p1 = some r) {w : World} :
    Calls Tryz.prog 191 [.int .i64 p0, .int .i64 p1].toArray w fun e w' => ∃ v, e = .returned v ∧ (∃ bc0 bc1, v = .func (.func 239) #[] [.pointer (some ⟨bc0, 0, none⟩), .pointer (some ⟨bc1, 0, none⟩)].toArray ∧ Bx w' bc0 180 ([.int .i64 r.1]) ∧ (w.heap.size ≤ bc0) ∧ Bx w' bc1 180 ([.int .i64 r.2]) ∧ (w.heap.size ≤ bc1) ∧ Gr w w') := by
 unfold Qkt at hm
 refine Qa5 6 Tryz.func191 rfl rfl rfl<|qs 3 rfl<|qe rfl (Qaq (cs := [.int .i64 p0]) rfl rfl) ?_
 rintro _ w1 ⟨b1, rfl, c, a, G1⟩
 have f := a.lt
 refine qe rfl (Qaq (cs := [.int .i64 p1]) rfl rfl) ?_
 rintro _ w2 ⟨b2, rfl, d, b, G2⟩
 refine qm rfl<|qd 2 rfl<|qv rfl (Qfb rfl rfl)<|qm rfl<|Qa1 ?_
 refine Qag ?_
 have B5 := (a.gr G2)
 have X6 := (((Gr.refl w).trans G1).trans G2)
 cases hm
 refine ⟨_, _, rfl, Qb1 rfl (Qab rfl), ?_⟩
 exact ⟨b1, b2, rfl, B5, by omega, b, by omega, X6⟩
theorem Qh8 {p0 p1 r} (hm : Qdh p0 p1 = some r) {w : World} :
    Calls Tryz.prog 240 [.int .i64 p0, .int .i64 p1].toArray w fun e w' => ∃ v, e = .returned v ∧ (v = .int .i64 r ∧ Gr w w') := by
 unfold Qdh at hm
 refine Qa5 13 Tryz.func240 rfl rfl rfl<|qs 1 rfl<|qm rfl<|qd 9 rfl ?_
 refine qm rfl<|qm rfl ?_
 obtain ⟨x1, c, hm⟩ := bnd hm
 refine qe rfl (eC Qw5 rfl (Qdn c)) ?_
 rintro _ w1 ⟨rfl, G1⟩
 refine qm rfl ?_
 obtain ⟨x2, d, hm⟩ := bnd hm
 refine qe rfl (eC Qw5 rfl (Qdn d)) ?_
 rintro _ w2 ⟨rfl, G2⟩
 refine qv rfl (Qi7 (k := .i64) (a := x1) (b := x2) rfl rfl)<|qv rfl (Qi7 (k := .i64) (a := w64 (x1 - x2)) (b := 1) rfl rfl) ?_
 obtain ⟨n3, hn3, hm⟩ := bnd hm
 refine qv rfl (Qze (a := p1) (b := (w64 ((w64 (x1 - x2)) - 1))) rfl rfl hn3)<|qm rfl<|Qa1<|Qag ?_
 have X3 := (((Gr.refl w).trans G1).trans G2)
 cases hm
 refine ⟨_, _, rfl, Qb1 rfl (Qab rfl), ?_⟩
 exact ⟨rfl, X3⟩
theorem Qmp (p1 : Int) (p2 : Int) (bp1 : Nat) (bp2 : Nat) (xs : List Int) (hm : Qjn p1 p2 = some xs) (w0 : World) (hbp1 : Bx w0 bp1 180 ([.int .i64 p1])) (hbp2 : Bx w0 bp2 180 ([.int .i64 p2])) :
    IT Tryz.prog 239 [.pointer (some ⟨bp1, 0, none⟩), .pointer (some ⟨bp2, 0, none⟩)] (xs.map (fun (x : Int) => ([.int .i64 x] : List Value))) ([bp1] ++ [bp2]) w0 := by
 intro l J Jx w fp hG hJ hJx hcap h0 hY
 have c1 := Bx.gr hbp1 hG
 have A := c1.lt
 have o : bp1 ∉ fp := hcap _ (by simp)
 have c4 := Bx.gr hbp2 hG
 have B := c4.lt
 have p : bp2 ∉ fp := hcap _ (by simp)
 have hd := Xtd xs
 unfold Qjn at hm
 refine Qa5 16 Tryz.func239 rfl rfl rfl<|qs 2 rfl<|qv rfl (Qa2 (v := .int .i64 p1) Qg7 rfl c1 rfl)<|qm rfl<|Qa1<|Qan ?_
 refine Qbj (α := Nat × Int × Nat × List Nat × List Int) ([4] ++ rg 6 10) (fun ⟨n1, a2, kk, fpl, rl⟩ => [(4, .int .i64 a2)]) (fun ⟨n1, a2, kk, fpl, rl⟩ wr => (Qc3 (Qfd p2) n1 a2 = some rl) ∧ Dr xs kk rl ∧ J kk fpl wr ∧ (∀ c ∈ fpl, c ∈ fp ∨ w.heap.size ≤ c) ∧ Kp fp w wr ∧ Bx wr bp1 180 ([.int .i64 p1]) ∧ Bx wr bp2 180 ([.int .i64 p2]) ∧ bp1 ∉ fpl ∧ bp2 ∉ fpl ∧ True) (fun ⟨n1, a2, kk, fpl, rl⟩ => n1) ⟨Qcw, p1, 0, fp, xs⟩ ?_ ?_ ?_
 · exact sbq
 · exact ⟨hm, hd, h0, (fun c hc => Or.inl hc), (Kp.refl fp w), c1, c4, o, p, trivial⟩
 clear hm; rintro ⟨n1, a2, j, fpl1, rl1⟩ w1 ⟨hm, dl1, JLw1, sl1, KLw1, f, d, g, h, -⟩
 have z7 := KLw1.size
 have C := f.lt
 have D := d.lt
 have hb := Qbv hm; clear hm; obtain ⟨n1, rfl, hm⟩ := hb
 generalize k : Qc3 (Qfd p2) n1 = z at hm
 unfold Qfd at hm
 try dsimp only at hm
 refine Qa3<|qs 3 rfl<|qm rfl<|qv rfl (Qa2 (v := .int .i64 p2) Qg7 rfl d rfl)<|qv rfl (Qc2 (a := a2) (b := p2) rfl rfl)<|Qa1 ?_
 refine cnF rfl (fun c1 => ?_) (fun c1 => ?_)
 · replace hm := iF c1 hm
   refine Qbp<|Qb4<|Qb4<|Qbq ?_
   have he := Option.some.inj hm
   have hl := Dr.last (c := (fun (x : Int) => ([.int .i64 x] : List Value))) dl1 he.symm
   refine ⟨_, _, rfl, Qh6 rfl, KLw1, .inl ⟨_, sl1, ?_⟩⟩
   rw [← hl]; exact JLw1
 replace hm := iT c1 hm
 refine qu<|Qan<|qs 4 rfl<|qm rfl<|qv rfl (Qa2 (v := .int .i64 p2) Qg7 rfl d rfl) ?_
 obtain ⟨x3, q, hm⟩ := bnd hm
 refine qe rfl (eC Xcw rfl (Qh8 q)) ?_
 rintro _ w2 ⟨rfl, G2⟩
 have E := G2.size
 refine qm rfl<|qd 4 rfl<|qm rfl<|qm rfl ?_
 have r := (hJ.gr JLw1 G2)
 have KI13 : Kp fp w w2 := (KLw1.gr G2)
 obtain ⟨rr11, hm, he11⟩ := Qvc hm
 have i := Dr.at dl1 he11
 have hd11 := Dr.next dl1 he11
 have s := (f.gr G2)
 have t := (d.gr G2)
 refine qe rfl (Qqq rfl rfl (hY _ _ _ _ (Xij i) r KI13 sl1)) ?_
 rintro _ w3 ⟨bb, rfl, KF11, e, hg11, hJb⟩
 have F := KF11.size
 have sub11 : ∀ c ∈ e, c ∈ fp ∨ w.heap.size ≤ c := Qkz sl1 hg11 (by omega)
 have m := Qb7 hg11 g (by omega)
 have n := Qb7 hg11 h (by omega)
 cases bb
 · have Jy11 : Jx (j + 1) e w3 := hJb
   refine qv rfl (Qci rfl)<|Qa1<|Qjs rfl<|Qag<|Qbo<|Qb2<|Qbo ?_
   have KI19 : Kp fp w w3 := (KI13.trans KF11 sl1)
   exact ⟨_, _, rfl, Qh6 rfl, KI19, .inr ⟨_, _, sub11, (by rw [List.length_map]; exact (List.getElem?_eq_some_iff.1 i).1), Jy11⟩⟩
 have Jy11 : J (j + 1) e w3 := hJb
 refine qv rfl (Qci rfl)<|Qa1<|Qkv rfl<|Qc4<|Qay ?_
 have KI20 : Kp fp w w3 := (KI13.trans KF11 sl1)
 have u := (Bx.kp s KF11 g)
 have y := (Bx.kp t KF11 h)
 subst k
 exact ⟨rfl, ⟨n1, x3, (j + 1), e, rr11⟩, sbq, ⟨hm, hd11, Jy11, sub11, KI20, u, y, m, n, trivial⟩, Nat.lt_succ_self _⟩
theorem Qgr {f g d bp0_0 bp0_1 r} (hm : Qbx f g d = some r) {w : World} (hbp0_0 : Bx w bp0_0 180 ([.int .i64 f])) (hbp0_1 : Bx w bp0_1 180 ([.int .i64 g])) :
    Calls Tryz.prog 190 [.func (.func 239) [].toArray [.pointer (some ⟨bp0_0, 0, none⟩), .pointer (some ⟨bp0_1, 0, none⟩)].toArray, .func (.func 118) [.agg (Qa6.cs d).toArray].toArray [].toArray].toArray w fun e w' => ∃ v, e = .returned v ∧ (v = .int .i64 r ∧ Gr w w') := by
 have U := hbp0_0.lt
 have V := hbp0_1.lt
 unfold Qbx at hm
 refine Qa5 12 Tryz.func190 rfl rfl rfl<|qs 2 rfl<|qe rfl (Qaq rfl rfl) ?_
 rintro _ w1 ⟨b1, rfl, Q, o, G1⟩
 have X := o.lt
 refine qe rfl (Qa8 (cs := [.int .i64 0]) Xdh rfl) ?_
 rintro _ w2 ⟨b2, rfl, R, p, G2⟩
 have Y := p.lt
 refine Qa1<|Qa3<|qs 1 rfl<|qm rfl<|Qa1<|Qan ?_
 have B7 := ((hbp0_0.gr G1).gr G2)
 have B8 := ((hbp0_1.gr G1).gr G2)
 obtain ⟨l1, y, hm⟩ := bnd hm
 have X9 := (((Gr.refl w).trans G1).trans G2)
 have z := (o.gr G2)
 refine Qi1 (gf := 239) rfl Xfh (Qmp f g _ _ _ y _ B7 B8) (by intro x hx; obtain ⟨a, _, rfl⟩ := List.mem_map.1 hx; rfl) rfl _ _ ([b2]) (Qwk (α := Int) (fun a3 rk => itL (Qb3 d) Qbe (List.drop rk l1) a3 = some r) (fun a3 => ([b2])) (fun a3 W => Bx W b2 180 ([.int .i64 a3]) ∧ True) (by rintro a3 W ⟨F0, _⟩ b hb; have q0 := F0.lt; replace hb : b ∈ ([b2]) := hb; simp only [List.mem_cons, List.mem_append, Qc5, List.not_mem_nil, or_false, false_or, not_or, ne_eq, List.nil_append, List.cons_append, true_and, and_true, false_and, and_false, not_true_eq_false, not_false_eq_true, or_true, true_or] at hb; omega) (by rintro a3 W W' ⟨F0, _⟩ E hs; replace hs : ∀ b ∈ ([b2]), W'.heap[b]? = W.heap[b]? := hs; exact ⟨(hs _ (by simp)).trans F0, trivial⟩)) (fun c => (Xqg (c = .ret) (Qwk (α := Int) (fun a3 rk => Qc6 a3 = some r) (fun a3 => ([b2])) (fun a3 W => Bx W b2 180 ([.int .i64 a3]) ∧ True) (by rintro a3 W ⟨F0, _⟩ b hb; have q0 := F0.lt; replace hb : b ∈ ([b2]) := hb; simp only [List.mem_cons, List.mem_append, Qc5, List.not_mem_nil, or_false, false_or, not_or, ne_eq, List.nil_append, List.cons_append, true_and, and_true, false_and, and_false, not_true_eq_false, not_false_eq_true, or_true, true_or] at hb; omega) (by rintro a3 W W' ⟨F0, _⟩ E hs; replace hs : ∀ b ∈ ([b2]), W'.heap[b]? = W.heap[b]? := hs; exact ⟨(hs _ (by simp)).trans F0, trivial⟩)))) (by intro b hb; simp only [List.mem_cons, List.mem_append, Qc5, List.not_mem_nil, or_false, false_or, not_or, ne_eq, List.nil_append, List.cons_append, true_and, and_true, false_and, and_false, not_true_eq_false, not_false_eq_true, or_true, true_or] at hb ⊢; omega) ⟨0, hm, rfl, p, trivial⟩ ?_ ?_ ?_
 · rintro l rk x fp w3 hl hx _ K3 hF hln hlt
   clear hm
   obtain ⟨e4, hxe, rfl⟩ := map_some hx
   have A : Kz [(1, b2)] w2 w3 := Qm2 K3 (by intro k hk; simp only [Nin, and_true, List.mem_cons, List.mem_append, Qc5, List.not_mem_nil, or_false, false_or, not_or, ne_eq, List.nil_append, List.cons_append, true_and, and_true, false_and, and_false, not_true_eq_false, not_false_eq_true, or_true, true_or] at hk ⊢; omega)
   refine qg 1 rfl<|qm rfl<|Qa9<|⟨rfl, (Gr.refl _), ?_⟩
   rintro w4 M4 ⟨a3, hm, rfl, h, -⟩
   replace hm := Qzn hm hxe
   generalize hnx1 : itL (Qb3 d) Qbe (List.drop (rk + 1) l1) = Z at hm
   unfold Qb3 at hm
   try dsimp only at hm
   refine Qan<|qs 3 rfl ?_
   have B := ((z.kz A).md M4)
   refine qv rfl (Qa2 Xmw rfl B rfl)<|qm rfl ?_
   obtain ⟨x5, C, hm⟩ := bnd hm
   refine qe rfl (Qcy Xfz rfl rfl (Qiq C)) ?_
   rintro _ w5 ⟨rfl, G5⟩
   refine Qa1<|Qam rfl (fun c1 => ?_) (fun c1 => ?_)
   · replace hm := Qc8 c1 hm
     refine qs 2 rfl<|qm rfl ?_
     have D := (h.gr G5)
     refine qe rfl (Qe9 (cs' := [.int .i64 e4]) (Qg7).siz rfl rfl rfl D rfl rfl) ?_
     rintro _ w6 ⟨F, M6⟩
     refine Qa1<|Qag<|Qbo ?_
     have K_18 : Kz [(1, b2)] w4 w6 := ((Kz.gr (Kz.refl _ _) G5).md M6)
     have Kq18 : Kp ([b2]) w4 w6 := Qsx K_18 (by intro k hk; simp only [Nin, and_true, List.mem_cons, List.mem_append, Qc5, List.not_mem_nil, or_false, false_or, not_or, ne_eq, List.nil_append, List.cons_append, true_and, and_true, false_and, and_false, not_true_eq_false, not_false_eq_true, or_true, true_or] at hk ⊢; omega)
     exact ⟨Kq18, ([b2]), (by intro c hc; simp only [List.mem_cons, List.mem_append, Qc5, List.not_mem_nil, or_false, false_or, not_or, ne_eq, List.nil_append, List.cons_append, true_and, and_true, false_and, and_false, not_true_eq_false, not_false_eq_true, or_true, true_or] at hc ⊢; omega), ⟨rfl, e4, hm, rfl, F, trivial⟩⟩
   replace hm := Qc7 c1 hm
   refine Qc4<|Qay ?_
   have G := (h.gr G5)
   have K_19 : Kz [(1, b2)] w4 w5 := (Kz.gr (Kz.refl _ _) G5)
   have Kq19 : Kp ([b2]) w4 w5 := Qsx K_19 (by intro k hk; simp only [Nin, and_true, List.mem_cons, List.mem_append, Qc5, List.not_mem_nil, or_false, false_or, not_or, ne_eq, List.nil_append, List.cons_append, true_and, and_true, false_and, and_false, not_true_eq_false, not_false_eq_true, or_true, true_or] at hk ⊢; omega)
   subst hnx1
   exact ⟨Kq19, ([b2]), (by intro c hc; simp only [List.mem_cons, List.mem_append, Qc5, List.not_mem_nil, or_false, false_or, not_or, ne_eq, List.nil_append, List.cons_append, true_and, and_true, false_and, and_false, not_true_eq_false, not_false_eq_true, or_true, true_or] at hc ⊢; omega), ⟨a3, hm, rfl, G, trivial⟩⟩
 · clear hm; rintro i fp w7 S q H ⟨a3, hm, rfl, j, -⟩ K7
   replace hm := Qws hm
   have I : Kz [(1, b2)] w2 w7 := Qm2 K7 (by intro k hk; simp only [Nin, and_true, List.mem_cons, List.mem_append, Qc5, List.not_mem_nil, or_false, false_or, not_or, ne_eq, List.nil_append, List.cons_append, true_and, and_true, false_and, and_false, not_true_eq_false, not_false_eq_true, or_true, true_or] at hk ⊢; omega)
   simp only [List.mem_cons, List.mem_append, Qc5, List.not_mem_nil, or_false, false_or, not_or, ne_eq, List.nil_append, List.cons_append, true_and, and_true, false_and, and_false, not_true_eq_false, not_false_eq_true, or_true, true_or, not_and] at H
   unfold Qbe at hm
   try dsimp only at hm
   refine Qay<|Qaz<|qs 1 rfl<|qe rfl (Qe9 (cs' := [.int .i64 0]) (Qg7).siz rfl rfl rfl j rfl rfl) ?_
   rintro _ w8 ⟨J, M8⟩
   refine Qa1<|Qag ?_
   have DL25 := (Df.md q M8)
   have s := Md.put (w := w8) i (.deferred none)
   have K := (J.md s)
   have L : Gr w (w8.putObj i (.deferred none)) := (((X9.kz I).md M8).md s)
   cases hm
   refine ⟨_, _, ⟨i, rfl, DL25, rfl⟩, Qb1 rfl (Xds Qg7 rfl K), ?_⟩
   exact ⟨rfl, L⟩
 clear hm; rintro m c rk fp w9 T t M hle ⟨rfl, a3, hm, rfl, n, -⟩ K9
 have N : Kz [(1, b2)] w2 w9 := Qm2 K9 (by intro k hk; simp only [Nin, and_true, List.mem_cons, List.mem_append, Qc5, List.not_mem_nil, or_false, false_or, not_or, ne_eq, List.nil_append, List.cons_append, true_and, and_true, false_and, and_false, not_true_eq_false, not_false_eq_true, or_true, true_or] at hk ⊢; omega)
 simp only [List.mem_cons, List.mem_append, Qc5, List.not_mem_nil, or_false, false_or, not_or, ne_eq, List.nil_append, List.cons_append, true_and, and_true, false_and, and_false, not_true_eq_false, not_false_eq_true, or_true, true_or, not_and] at M
 unfold Qc6 at hm
 try dsimp only at hm
 refine Qag<|Qbo<|Qb2 ?_
 have DL31 := t
 have u := Md.put (w := w9) m (.deferred none)
 have O := (n.md u)
 have P : Gr w (w9.putObj m (.deferred none)) := ((X9.kz N).md u)
 cases hm
 refine ⟨_, _, ⟨m, rfl, DL31, rfl⟩, Qb1 rfl (Xds Qg7 rfl O), ?_⟩
 exact ⟨rfl, P⟩
theorem Qpo {p0 p1 p2 r} (hm : Qe3 p0 p1 p2 = some r) {w : World} :
    Calls Tryz.prog 117 [.agg (Qa6.cs p0).toArray, .int .i64 p1, .int .i64 p2].toArray w fun e w' => ∃ v, e = .returned v ∧ (v = .int .i64 r ∧ Gr w w') := by
 unfold Qe3 at hm
 refine Qa5 14 Tryz.func117 rfl rfl rfl<|qs 2 rfl<|qe rfl (Qaq (cs := Qa6.cs p0) rfl rfl) ?_
 rintro _ w1 ⟨b1, rfl, m, j, G1⟩
 refine qm rfl<|Qa1<|Qa3<|dw [([])] [] (.leaf [(0,10),(1,10),(2,10),(4,10),(5,10),(3,0),(6,0),(7,10)]) ?_
 intro w2 G2 n
 refine Qal<|dm 0 rfl rfl<|dm 0 rfl rfl ?_
 obtain ⟨n1, hn1, hm⟩ := bnd hm
 refine dh 0 rfl rfl (fun w hS => Qze (a := p2) (b := (un 1#64)) rfl rfl hn1) ?_
 have B3 := (j.gr G2)
 refine dh 0 rfl rfl (fun w hS => Qa4 Qcf rfl (Bx.kp B3 hS) rfl)<|dh 0 rfl rfl (fun w hS => Qfb rfl rfl) ?_
 obtain ⟨x2, k, hm⟩ := bnd hm
 refine qz [] rfl (eC Xgh rfl (Qq2 k)) ⟨fun _ => tk0, trivial⟩ ?_
 rintro _ w3 ⟨f, g, rfl, c, h, d, i, G3⟩
 refine kG G3 ?_
 obtain ⟨x3, l, hm⟩ := bnd hm
 refine qz [] rfl (eC Xrx rfl (Qgr l c d)) ⟨fun _ => tk0, trivial⟩ ?_
 rintro _ w4 ⟨rfl, G4⟩
 refine kG G4 ?_
 have S8 := (((Kp.refl ([]) w2).gr G3).gr G4)
 refine dn 0 rfl rfl S8<|Qa1<|Qag ?_
 have X9 := (((((Gr.refl w).trans G1).trans G2).trans G3).trans G4)
 cases hm
 refine ⟨_, _, rfl, Qb1 rfl (Qab rfl), ?_⟩
 exact ⟨rfl, X9⟩
theorem Qj8 {p0 p1 r} (hm : Qcj p0 p1 = some r) {w : World} :
    Calls Tryz.prog 124 [.agg (Qa6.cs p0).toArray, .agg (Qaf.cs p1).toArray].toArray w fun e w' => ∃ v, e = .returned v ∧ (v = .bool r ∧ Gr w w') := by
 unfold Qcj at hm
 refine Qa5 68 Tryz.func124 rfl rfl rfl<|qs 3 rfl<|qe rfl (Qaq (cs := Qa6.cs p0) rfl rfl) ?_
 rintro _ w1 ⟨b1, rfl, F, g, G1⟩
 refine qe rfl (Qaq (cs := Qaf.cs p1) rfl rfl) ?_
 rintro _ w2 ⟨b2, rfl, G, h, G2⟩
 refine qm rfl<|Qa1<|Qa3<|dw [([])] [] (.leaf [(0,10),(1,10),(2,10),(3,10),(4,10),(5,10)]) ?_
 intro w3 G3 H
 refine Qal<|dh 0 rfl rfl (fun w hS => Qa0 Qpd rfl) ?_
 have B5 := (h.gr G3)
 refine dh 0 rfl rfl (fun w hS => Qa2 (v := .int .i64 p1.Node) Qaw rfl (Bx.kp B5 hS) rfl)<|dh 0 rfl rfl (fun w hS => Qa0 Qk7 rfl)<|dh 0 rfl rfl (fun w hS => Qa2 (v := .int .i64 p1.Minus) Qaw rfl (Bx.kp B5 hS) rfl)<|dm 0 rfl rfl<|dm 0 rfl rfl<|Qa1<|Qa3 ?_
 refine Qan<|qs 6 rfl ?_
 have B6 := ((g.gr G2).gr G3)
 refine qv rfl (Qa4 Qcf rfl B6 rfl)<|qv rfl (Qa0 Qpd rfl)<|qv rfl (Qa2 (v := .int .i64 p1.Node) Qaw rfl B5 rfl) ?_
 obtain ⟨x1, i, hm⟩ := bnd hm
 refine qe rfl (eC Xlz rfl (Qpm i)) ?_
 rintro _ w4 ⟨rfl, G4⟩
 refine qv rfl (Qci rfl)<|qm rfl<|Qa1<|Qam rfl (fun c1 => ?_) (fun c1 => ?_)
 · replace hm := Qc8 c1 hm
   refine qs 1 rfl<|qm rfl<|Qa1<|Qag<|Qbo<|Qb2 ?_
   have Y1 := Gr.trans (Gr.trans (Gr.trans G1 G2) G3) G4
   have X8 := ((Gr.refl w).trans Y1)
   cases hm
   refine ⟨_, _, rfl, Qb1 rfl (Qab rfl), ?_⟩
   exact ⟨rfl, X8⟩
 replace hm := Qc7 c1 hm
 have Y2 := Gr.trans (Gr.trans (Gr.trans G1 G2) G3) G4
 have X9 := ((Gr.refl w).trans Y2)
 refine qj (β := Bool) (rg 17 8) (fun a2 => [(17, .bool a2)]) (fun a2 wr => (Qdr p0 p1 a2 = some r) ∧ Kz [] w4 wr) ?_ ?_
 · refine qg 8 rfl<|qv rfl (Qa0 Qlt rfl) ?_
   have j := (B6.gr G4)
   refine qv rfl (Qa2 (v := bv p0.kind) Qcu rfl j rfl)<|qv rfl (Qj9 (p := p0.kind) (q := 1#8) rfl rfl)<|qp rfl (Qac rfl) (fun d => ?_) (fun d => ?_)
   · replace hm := iT d hm
     refine qk rfl<|qk rfl<|qm rfl<|qm rfl<|Qa9 ?_
     exact ⟨rfl, true, sbq, hm, kz0⟩
   replace hm := iF d hm
   refine qm rfl<|qv rfl (Qeh (a := p1.Minus) (b := 0) rfl rfl)<|qm rfl<|qm rfl<|Qa9 ?_
   exact ⟨rfl, (decide (p1.Minus = 0)), sbq, hm, kz0⟩
 clear hm; rintro a2 w5 ⟨hm, K5⟩
 unfold Qdr at hm
 refine Qam rfl (fun c2 => ?_) (fun c2 => ?_)
 · replace hm := Qc8 c2 hm
   refine qs 12 rfl<|qm rfl<|qv rfl (Qeh (a := p1.Minus) (b := 0) rfl rfl)<|qpF rfl (Qac rfl) (fun c3 => ?_) (fun c3 => ?_)
   · replace hm := iF c3 hm
     refine qk rfl<|qk rfl<|qk rfl<|qk rfl<|qk rfl<|qk rfl<|qk rfl ?_
     refine qm rfl<|qm rfl<|Qa1<|Qag<|Qbo<|Qb2 ?_
     have k := (X9.kz K5)
     cases hm
     refine ⟨_, _, rfl, Qb1 rfl (Qab rfl), ?_⟩
     exact ⟨rfl, k⟩
   replace hm := iT c3 hm
   refine qv rfl (Qa0 Qlt rfl) ?_
   have l := ((B6.gr G4).kz K5)
   refine qv rfl (Qa2 (v := bv p0.kind) Qcu rfl l rfl)<|qv rfl (Qj9 (p := p0.kind) (q := 1#8) rfl rfl)<|qp rfl (Qac rfl) (fun c4 => ?_) (fun c4 => ?_)
   · replace hm := iT c4 hm
     refine qk rfl<|qk rfl<|qm rfl<|qm rfl<|qm rfl<|Qa1<|Qag ?_
     refine Qbo<|Qb2 ?_
     have m := (X9.kz K5)
     cases hm
     refine ⟨_, _, rfl, Qb1 rfl (Qab rfl), ?_⟩
     exact ⟨rfl, m⟩
   replace hm := iF c4 hm
   refine qm rfl<|qv rfl (Qeh (a := p1.Node) (b := 1) rfl rfl)<|qm rfl<|qm rfl<|qm rfl<|Qa1<|Qag ?_
   refine Qbo<|Qb2 ?_
   have n := (X9.kz K5)
   cases hm
   refine ⟨_, _, rfl, Qb1 rfl (Qab rfl), ?_⟩
   exact ⟨rfl, n⟩
 replace hm := Qc7 c2 hm
 have c := (X9.kz K5)
 refine qj (β := Bool) (rg 36 17) (fun a3 => [(36, .bool a3)]) (fun a3 wr => (Qd5 p0 p1 a3 = some r) ∧ Kz [] w5 wr) ?_ ?_
 · refine qg 17 rfl ?_
   have o := ((B6.gr G4).kz K5)
   refine qv rfl (Qa4 Qcf rfl o rfl)<|qv rfl (Qa0 Qk7 rfl) ?_
   have s := ((B5.gr G4).kz K5)
   refine qv rfl (Qa2 (v := .int .i64 p1.Minus) Qaw rfl s rfl) ?_
   obtain ⟨x6, t, hm⟩ := bnd hm
   refine qe rfl (eC Xlz rfl (Qpm t)) ?_
   rintro _ w9 ⟨rfl, G9⟩
   refine qv rfl (Qci rfl)<|qp rfl (Qac rfl) (fun c8 => ?_) (fun c8 => ?_)
   · replace hm := Qc8 c8 hm
     refine qk rfl<|qk rfl<|qk rfl<|qm rfl<|qm rfl<|qk rfl<|qk rfl ?_
     refine qk rfl<|qk rfl<|qm rfl<|qm rfl<|Qa9 ?_
     exact ⟨rfl, true, sbq, hm, (kz0.gr G9)⟩
   replace hm := Qc7 c8 hm
   refine qm rfl<|qm rfl<|qv rfl (Qeh (a := p1.Minus) (b := p1.Node) rfl rfl)<|qm rfl<|qp rfl (Qac rfl) (fun c9 => ?_) (fun c9 => ?_)
   · replace hm := iT c9 hm
     refine qk rfl<|qk rfl<|qk rfl<|qk rfl<|qm rfl<|qm rfl<|Qa9 ?_
     exact ⟨rfl, true, sbq, hm, (kz0.gr G9)⟩
   replace hm := iF c9 hm
   refine qm rfl<|qm rfl ?_
   obtain ⟨x7, u, hm⟩ := bnd hm
   refine qe rfl (eC Xft rfl (Qk3 u)) ?_
   rintro _ I ⟨rfl, x⟩
   refine qv rfl (Qci rfl)<|qm rfl<|qm rfl<|Qa9 ?_
   exact ⟨rfl, (!x7), sbq, hm, ((kz0.gr G9).gr x)⟩
 clear hm; rintro a3 w6 ⟨hm, K6⟩
 unfold Qd5 at hm
 refine Qam rfl (fun c5 => ?_) (fun c5 => ?_)
 · replace hm := Qc8 c5 hm
   refine qs 1 rfl<|qm rfl<|Qa1<|Qag<|Qbo<|Qb2 ?_
   have y := (c.kz K6)
   cases hm
   refine ⟨_, _, rfl, Qb1 rfl (Qab rfl), ?_⟩
   exact ⟨rfl, y⟩
 replace hm := Qc7 c5 hm
 refine Qc4<|Qay<|Qaz<|qs 16 rfl<|qv rfl (Qa0 Qlt rfl) ?_
 have f := (((B6.gr G4).kz K5).kz K6)
 refine qv rfl (Qa2 (v := bv p0.kind) Qcu rfl f rfl)<|qv rfl (Qj9 (p := p0.kind) (q := 2#8) rfl rfl)<|qp rfl (Qac rfl) (fun c6 => ?_) (fun c6 => ?_)
 · replace hm := iT c6 hm
   refine qk rfl<|qk rfl<|qk rfl<|qm rfl<|qm rfl<|qk rfl<|qk rfl ?_
   refine qk rfl<|qk rfl<|qk rfl<|qm rfl<|qm rfl<|Qa1<|Qag ?_
   have z := (c.kz K6)
   cases hm
   refine ⟨_, _, rfl, Qb1 rfl (Qab rfl), ?_⟩
   exact ⟨rfl, z⟩
 replace hm := iF c6 hm
 refine qv rfl (Qa4 Qcf rfl f rfl)<|qm rfl ?_
 obtain ⟨x4, A, hm⟩ := bnd hm
 refine qe rfl (eC Xfz rfl (Qiq A)) ?_
 rintro _ w7 ⟨rfl, G7⟩
 refine qm rfl<|qp rfl (Qac rfl) (fun c7 => ?_) (fun c7 => ?_)
 · replace hm := Qc8 c7 hm
   refine qk rfl<|qk rfl<|qk rfl<|qk rfl<|qk rfl<|qm rfl<|qm rfl ?_
   refine Qa1<|Qag ?_
   have B := ((c.kz K6).trans G7)
   cases hm
   refine ⟨_, _, rfl, Qb1 rfl (Qab rfl), ?_⟩
   exact ⟨rfl, B⟩
 replace hm := Qc7 c7 hm
 have C := (f.gr G7)
 refine qv rfl (Qa4 Qcf rfl C rfl)<|qm rfl<|qm rfl ?_
 obtain ⟨x5, D, hm⟩ := bnd hm
 refine qe rfl (eC Xml rfl (Qpo D)) ?_
 rintro _ w8 ⟨rfl, G8⟩
 refine qv rfl (Qeh (a := x5) (b := 0) rfl rfl)<|qm rfl<|qm rfl<|Qa1<|Qag ?_
 have E := (((c.kz K6).trans G7).trans G8)
 cases hm
 refine ⟨_, _, rfl, Qb1 rfl (Qab rfl), ?_⟩
 exact ⟨rfl, E⟩
theorem Qlw {p0 p1 vp1 zp1 gp1 op1 r} (hm : Qdb p0 p1 = some r) {w : World} (h : Rd w zp1 gp1 op1 2 vp1 (p1.map Qaf.cs)) :
    Calls Tryz.prog 112 [.agg (Qa7.cs p0).toArray, vp1].toArray w fun e w' => ∃ v, e = .returned v ∧ (v = .tuple [.agg (Qa6.cs r.1).toArray, .int .i64 r.2].toArray ∧ Gr w w') := by
 have x := h.lth
 unfold Qdb at hm
 refine Qa5 31 Tryz.func112 rfl rfl rfl<|qs 3 rfl<|qe rfl (Qaq (cs := Qa7.cs p0) rfl rfl) ?_
 rintro _ w1 ⟨b1, rfl, O, j, G1⟩
 have T := j.lt
 refine qe rfl (Qa8 (cs := Qa6.cs (Qa6.mk 0#8 0 0)) Qr8 rfl) ?_
 rintro _ w2 ⟨b2, rfl, P, d, G2⟩
 have U := d.lt
 refine qm rfl<|qd 8 rfl ?_
 have B6 := (j.gr G2)
 refine qv rfl (Qa4 Qcn rfl B6 rfl) ?_
 obtain ⟨x1, y, hm⟩ := bnd hm
 refine qe rfl (eC Xmp rfl (Qra y)) ?_
 rintro _ w3 ⟨rfl, G3⟩
 have z7 := G3.size
 refine qm rfl<|qm rfl<|qm rfl<|qe rfl (Qa8 (cs := Qa6.cs (Qa6.mk 0#8 0 0)) Qr8 rfl) ?_
 rintro _ w4 ⟨b4, rfl, Q, m, G4⟩
 have V := m.lt
 refine qe rfl (Qaj Qcf rfl rfl rfl m rfl rfl) ?_
 rintro _ w5 ⟨n, M5⟩
 have W := M5.size
 refine qm rfl<|Qa1<|Qa3<|qs 2 rfl<|qm rfl<|qv rfl (Qci rfl) ?_
 refine Qa1<|Qam rfl (fun c1 => ?_) (fun c1 => ?_)
 · replace hm := Qc8 c1 hm
   refine qs 3 rfl<|qv rfl (Qas (cs := Qa6.cs (Qa6.mk 0#8 0 0)) Xdr rfl rfl) ?_
   have Y1 := Gr.trans G3 G4
   have z := ((d.gr Y1).md M5)
   refine qe rfl (Qaj Qcf rfl rfl rfl z rfl rfl) ?_
   rintro _ w6 ⟨A, M6⟩
   refine qm rfl<|qb ?_
   have Y2 := Gr.trans (Gr.trans G1 G2) Y1
   have B := ((((Gr.refl w).trans Y2).md M5).md M6)
   cases hm
   refine ⟨_, _, rfl, Qbk rfl (Qap Qcf rfl A rfl) (Qab rfl), ?_⟩
   exact ⟨rfl, B⟩
 replace hm := Qc7 c1 hm
 refine qu<|Qa3<|qs 3 rfl<|qm rfl ?_
 have Y3 := Gr.trans (Gr.trans (Gr.trans G1 G2) G3) G4
 have o := ((h.gr Y3).md M5 (Qau x))
 refine qv rfl (Qbi (l := p1) (c := Qaf.cs) Tryz.underlying107 rfl o)<|qm rfl<|Qa1<|Qan ?_
 have p := (((Gr.refl w).trans Y3).md M5)
 refine Qbj (α := Nat × Int) ([5, 9] ++ rg 20 10) (fun ⟨n1, a3⟩ => [(5, .int .i64 0), (20, .int .i64 a3)]) (fun ⟨n1, a3⟩ wr => (Qc3 (Qf2 p1 x1) n1 a3 = some r) ∧ Kz [] w5 wr) (fun ⟨n1, a3⟩ => n1) ⟨Qcw, 0⟩ ?_ ?_ ?_
 · exact sbq
 · exact ⟨hm, Kz.refl _ _⟩
 clear hm; rintro ⟨n1, a3⟩ w7 ⟨hm, K7⟩
 have X := K7.size
 have hb := Qbv hm; clear hm; obtain ⟨n1, rfl, hm⟩ := hb
 generalize f : Qc3 (Qf2 p1 x1) n1 = R at hm
 unfold Qf2 at hm
 try dsimp only at hm
 refine qs 1 rfl<|qv rfl (Qcd (a := a3) (b := (p1.length : Int)) rfl rfl)<|Qa1<|Qa3<|cnF rfl (fun c2 => ?_) (fun c2 => ?_)
 · replace hm := iF c2 hm
   refine Qbp<|Qb4<|Qb4<|Qbq<|Qaz<|qs 3 rfl ?_
   have C := (n.kz K7)
   refine qv rfl (Qa4 Qcf rfl C rfl) ?_
   have Y4 := Gr.trans G3 G4
   have D := (((d.gr Y4).md M5).kz K7)
   refine qe rfl (Qaj Qcf rfl rfl rfl D rfl rfl) ?_
   rintro _ Y ⟨q, E⟩
   refine qm rfl<|Qa1<|Qag ?_
   have F := ((p.kz K7).md E)
   cases hm
   refine ⟨_, _, rfl, Qbk rfl (Qap Qcf rfl q rfl) (Qab rfl), ?_⟩
   exact ⟨rfl, F⟩
 replace hm := iT c2 hm
 refine qu<|Qa3<|Qan<|qs 4 rfl ?_
 obtain ⟨y4, s, hm⟩ := bnd hm
 have t := (o.kz K7)
 refine qv rfl (Qf7 (i := a3) Tryz.underlying107 (Qjd).siz rfl t rfl s)<|qv rfl (Qhs Qjd rfl t s (by first | rfl | omega))<|qe rfl (Qa8 (cs := Qaf.cs (Qaf.mk 0 0)) Xd6 rfl) ?_
 rintro _ w8 ⟨b8, rfl, S, G, G8⟩
 refine qe rfl (Qaj Qjd rfl rfl rfl G rfl rfl) ?_
 rintro _ w9 ⟨H, M9⟩
 refine qd 4 rfl ?_
 have I := (((n.kz K7).gr G8).md M9)
 refine qv rfl (Qa4 Qcf rfl I rfl)<|qv rfl (Qa4 Qjd rfl H rfl) ?_
 obtain ⟨x5, J, hm⟩ := bnd hm
 refine qe rfl (eC Xih rfl (Qj8 J)) ?_
 rintro _ K ⟨rfl, g⟩
 refine qv rfl (Qci rfl)<|Qa1<|cnF rfl (fun c3 => ?_) (fun c3 => ?_)
 · replace hm := Qc7 c3 hm
   refine Qc4<|Qay<|Qaz<|qg 2 rfl<|qv rfl (Qce (k := .i64) (a := a3) (b := 1) rfl rfl)<|qm rfl<|Qa9 ?_
   have K_26 : Kz [] w5 K := (((K7.gr G8).md M9).gr g)
   subst f
   exact ⟨rfl, ⟨n1, w64 (a3 + 1)⟩, sbq, ⟨hm, K_26⟩, Nat.lt_succ_self _⟩
 replace hm := Qc8 c3 hm
 refine qs 3 rfl<|qv rfl (Qas (cs := Qa6.cs (Qa6.mk 0#8 0 0)) Xdr rfl rfl) ?_
 have Y5 := Gr.trans G3 G4
 have L := ((((((d.gr Y5).md M5).kz K7).gr G8).md M9).gr g)
 refine qe rfl (Qaj Qcf rfl rfl rfl L rfl rfl) ?_
 rintro _ Z ⟨u, M⟩
 refine qm rfl<|Qa1<|Qag<|Qbo<|Qb2<|Qb2<|Qbo ?_
 refine Qb2 ?_
 have N := (((((p.kz K7).trans G8).md M9).trans g).md M)
 cases hm
 refine ⟨_, _, rfl, Qbk rfl (Qap Qcf rfl u rfl) (Qab rfl), ?_⟩
 exact ⟨rfl, N⟩
theorem Qlb {p0 p1 r} (hm : Qdd p0 p1 = some r) {w : World} :
    Calls Tryz.prog 188 [.agg (Qa6.cs p0).toArray, .int .i64 p1].toArray w fun e w' => ∃ v, e = .returned v ∧ (v = .bool r ∧ Gr w w') := by
 unfold Qdd at hm
 refine Qa5 13 Tryz.func188 rfl rfl rfl<|qs 2 rfl<|qe rfl (Qaq (cs := Qa6.cs p0) rfl rfl) ?_
 rintro _ w1 ⟨b1, rfl, f, c, G1⟩
 refine qm rfl<|qd 9 rfl<|qm rfl<|qv rfl (Qee (a := p1) (b := 0) rfl rfl)<|qpF rfl (Qac rfl) (fun c1 => ?_) (fun c1 => ?_)
 · replace hm := iF c1 hm
   refine qk rfl<|qk rfl<|qk rfl<|qk rfl<|qm rfl<|qm rfl<|Qa1 ?_
   refine Qag ?_
   have X5 := ((Gr.refl w).trans G1)
   cases hm
   refine ⟨_, _, rfl, Qb1 rfl (Qab rfl), ?_⟩
   exact ⟨rfl, X5⟩
 replace hm := iT c1 hm
 refine qm rfl<|qv rfl (Qa4 Qcf rfl c rfl) ?_
 obtain ⟨x1, d, hm⟩ := bnd hm
 refine qe rfl (eC Xi7 rfl (Qki d)) ?_
 rintro _ w2 ⟨rfl, G2⟩
 refine qv rfl (Qcd (a := p1) (b := x1) rfl rfl)<|qm rfl<|qm rfl<|Qa1<|Qag ?_
 have X4 := (((Gr.refl w).trans G1).trans G2)
 cases hm
 refine ⟨_, _, rfl, Qb1 rfl (Qab rfl), ?_⟩
 exact ⟨rfl, X4⟩
theorem Qs9 {p0 p1 r} (hm : Qii p0 p1 = some r) {w : World} :
    Calls Tryz.prog 202 [.agg (Qa6.cs p0).toArray, .int .i64 p1].toArray w fun e w' => ∃ v, e = .returned v ∧ (∃ bc0 bc1, v = .func (.func 251) #[] [.pointer (some ⟨bc0, 0, none⟩), .pointer (some ⟨bc1, 0, none⟩)].toArray ∧ Bx w' bc0 175 (Qa6.cs r.1) ∧ (w.heap.size ≤ bc0) ∧ Bx w' bc1 3 ([.int .i64 r.2]) ∧ (w.heap.size ≤ bc1) ∧ Gr w w') := by
 unfold Qii at hm
 refine Qa5 6 Tryz.func202 rfl rfl rfl<|qs 3 rfl<|qe rfl (Qaq (cs := Qa6.cs p0) rfl rfl) ?_
 rintro _ w1 ⟨b1, rfl, c, a, G1⟩
 have f := a.lt
 refine qe rfl (Qaq (cs := [.int .i64 p1]) rfl rfl) ?_
 rintro _ w2 ⟨b2, rfl, d, b, G2⟩
 refine qm rfl<|qd 2 rfl<|qv rfl (Qfb rfl rfl)<|qm rfl<|Qa1 ?_
 refine Qag ?_
 have B5 := (a.gr G2)
 have X6 := (((Gr.refl w).trans G1).trans G2)
 cases hm
 refine ⟨_, _, rfl, Qb1 rfl (Qab rfl), ?_⟩
 exact ⟨b1, b2, rfl, B5, by omega, b, by omega, X6⟩
theorem Qoa {p0 p1 r} (hm : Qff p0 p1 = some r) {w : World} :
    Calls Tryz.prog 114 [.agg (Qa6.cs p0).toArray, .int .i64 p1].toArray w fun e w' => ∃ v, e = .returned v ∧ (v = .int .i64 r ∧ Gr w w') := by
 unfold Qff at hm
 refine Qa5 9 Tryz.func114 rfl rfl rfl<|qs 2 rfl<|qe rfl (Qaq (cs := Qa6.cs p0) rfl rfl) ?_
 rintro _ w1 ⟨b1, rfl, f, c, G1⟩
 refine qm rfl<|qd 5 rfl<|qv rfl (Qa4 Qcf rfl c rfl) ?_
 obtain ⟨x1, d, hm⟩ := bnd hm
 refine qe rfl (eC Xi7 rfl (Qki d)) ?_
 rintro _ w2 ⟨rfl, G2⟩
 refine qm rfl<|qv rfl (Qce (k := .i64) (a := x1) (b := p1) rfl rfl)<|qm rfl<|Qa1<|Qag ?_
 have X4 := (((Gr.refl w).trans G1).trans G2)
 cases hm
 refine ⟨_, _, rfl, Qb1 rfl (Qab rfl), ?_⟩
 exact ⟨rfl, X4⟩
theorem Qgc {p0 r} (hm : Qd6 p0 = some r) {w : World} :
    Calls Tryz.prog 116 [.int .i64 p0].toArray w fun e w' => ∃ v, e = .returned v ∧ (v = .int .i64 r ∧ Gr w w') := by
 unfold Qd6 at hm
 refine Qa5 5 Tryz.func116 rfl rfl rfl<|qs 1 rfl<|qm rfl<|qd 3 rfl ?_
 refine qm rfl<|qv rfl (Xnw (a := p0) (b := 1) (by simp) rfl rfl)<|qm rfl<|Qa1<|Qag ?_
 cases hm
 refine ⟨_, _, rfl, Qb1 rfl (Qab rfl), ?_⟩
 exact ⟨rfl, (Gr.refl w)⟩
theorem Qpt (p1 : Qa6) (p2 : Int) (bp1 : Nat) (bp2 : Nat) (xs : List (Int × Int)) (hm : Qf8 p1 p2 = some xs) (w0 : World) (hbp1 : Bx w0 bp1 175 (Qa6.cs p1)) (hbp2 : Bx w0 bp2 3 ([.int .i64 p2])) :
    IT Tryz.prog 251 [.pointer (some ⟨bp1, 0, none⟩), .pointer (some ⟨bp2, 0, none⟩)] (xs.map (fun (x : Int × Int) => ([.int .i64 x.1, .int .i64 x.2] : List Value))) ([bp1] ++ [bp2]) w0 := by
 intro l J Jx w fp hG hJ hJx hcap h0 hY
 have c1 := Bx.gr hbp1 hG
 have c9 := c1.lt
 have aG : bp1 ∉ fp := hcap _ (by simp)
 have c4 := Bx.gr hbp2 hG
 have da := c4.lt
 have aH : bp2 ∉ fp := hcap _ (by simp)
 have hd := Xtd xs
 unfold Qf8 at hm
 refine Qa5 48 Tryz.func251 rfl rfl rfl<|qs 1 rfl<|qe rfl (Qaq rfl rfl) ?_
 rintro _ w1 ⟨b1, rfl, cG, aI, G1⟩
 have z7 := G1.size
 have db := aI.lt
 have aJ : b1 ∉ fp := fun h => absurd (hJ.lt h0 _ h) (by omega)
 refine qd 4 rfl ?_
 have aK := (c1.gr G1)
 refine qv rfl (Qa4 Qcf rfl aK rfl) ?_
 have aL := (c4.gr G1)
 refine qv rfl (Qa2 (v := .int .i64 p2) Qaw rfl aL rfl) ?_
 obtain ⟨x1, bE, hm⟩ := bnd hm
 refine qe rfl (eC Xmg rfl (Qoa bE)) ?_
 rintro _ w2 ⟨rfl, G2⟩
 have bF := (hJ.gr h0 G1)
 have dc := G2.size
 refine qm rfl<|Qa1<|Qa3<|qs 3 rfl ?_
 have aM := (aI.gr G2)
 refine qv rfl (Qa2 Xbv rfl aM rfl) ?_
 have bG := (hJ.gr bF G2)
 have KI17 : Kp fp w w2 := (((Kp.refl fp w).gr G1).gr G2)
 obtain ⟨rr15, hm, he15⟩ := Qvc hm
 have ae := Dr.at hd he15
 have hd15 := Dr.next hd he15
 have bH := (aK.gr G2)
 have bI := (aL.gr G2)
 refine qe rfl (Qqq rfl rfl (hY _ _ _ _ (Xij ae) bG KI17 (fun c hc => Or.inl hc))) ?_
 rintro _ w3 ⟨bb, rfl, KF15, n, hg15, hJb⟩
 have de := KF15.size
 have sub15 : ∀ c ∈ n, c ∈ fp ∨ w.heap.size ≤ c := Qkz (fun c hc => Or.inl hc) hg15 (by omega)
 have aN := Qb7 hg15 aG (by omega)
 have aO := Qb7 hg15 aH (by omega)
 have aP := Qb7 hg15 aJ (by omega)
 cases bb
 · have Jy15 : Jx (0 + 1) n w3 := hJb
   refine qv rfl (Qci rfl)<|Qa1<|Qjs rfl<|Qag<|Qb2 ?_
   have KI24 : Kp fp w w3 := (KI17.trans KF15 (fun c hc => Or.inl hc))
   exact ⟨_, _, rfl, Qh6 rfl, KI24, .inr ⟨_, _, sub15, (by rw [List.length_map]; exact (List.getElem?_eq_some_iff.1 ae).1), Jy15⟩⟩
 have Jy15 : J (0 + 1) n w3 := hJb
 refine qv rfl (Qci rfl)<|Qa1<|Qkv rfl<|qu<|qs 2 rfl ?_
 refine qe rfl (Qa8 (cs := [.int .i64 0]) Xdh rfl) ?_
 rintro _ w4 ⟨b4, rfl, cH, aQ, G4⟩
 have df := G4.size
 have cI := aQ.lt
 have af : b4 ∉ n := fun h => absurd (hJ.lt Jy15 _ h) (by omega)
 refine qe rfl (Qe9 (cs' := [.int .i64 1]) (Qg7).siz rfl rfl rfl aQ rfl rfl) ?_
 rintro _ w5 ⟨bJ, M5⟩
 have dg := M5.size
 refine Qa1<|Qan ?_
 have bK := (hJ.md (hJ.gr Jy15 G4) M5 af)
 have KI30 : Kp fp w w5 := (((KI17.trans KF15 (fun c hc => Or.inl hc)).gr G4).md M5 (Or.inr (by omega)))
 have bL := (((Bx.kp bH KF15 aG).gr G4).md M5)
 have bM := (((Bx.kp bI KF15 aH).gr G4).md M5)
 have bN := (((Bx.kp aM KF15 aJ).gr G4).md M5)
 refine Xki (α := Nat × Int × Nat × Nat × List Nat × List (Int × Int)) ([5, 6, 7] ++ rg 14 34) (fun ⟨n1, a2, bq1_5, kk, fpl, rl⟩ => [(5, .pointer (some ⟨bq1_5, 0, none⟩))]) (fun ⟨n1, a2, bq1_5, kk, fpl, rl⟩ ks wr => (Qc3 (Qfk p1 x1) n1 a2 = some rl) ∧ Dr xs kk rl ∧ J kk fpl wr ∧ (∀ c ∈ fpl, c ∈ fp ∨ w.heap.size ≤ c) ∧ Kp fp w wr ∧ Bx wr bp1 175 (Qa6.cs p1) ∧ Bx wr bp2 3 ([.int .i64 p2]) ∧ Bx wr b1 301 [.func (.yield l) #[] #[]] ∧ bp1 ∉ fpl ∧ bp2 ∉ fpl ∧ b1 ∉ fpl ∧ Bx wr bq1_5 180 ([.int .i64 a2]) ∧ bq1_5 ∉ fpl ∧ w.heap.size ≤ bq1_5 ∧ bq1_5 ≠ bp1 ∧ bq1_5 ≠ bp2 ∧ bq1_5 ≠ b1 ∧ MkI w.heap.size ks fpl wr) (fun ⟨n1, a2, bq1_5, kk, fpl, rl⟩ => n1) ⟨Qcw, 1, b4, (0 + 1), n, rr15⟩ [] rfl ?_ ?_ ?_
 · exact sbq
 · exact ⟨hm, hd15, bK, sub15, KI30, bL, bM, bN, aN, aO, aP, bJ, af, (by omega), (by omega), (by omega), (by omega), (Xoj w.heap.size n w5)⟩
 clear hm; rintro ⟨n1, a2, bq1_5, ad, fpl1, rl1⟩ ks1 w6 ⟨hm, dl1, JLw6, sl1, KLw6, o, D, E, f, g, d, m, e, bO, bP, bQ, bR, MKw6⟩
 have di := KLw6.size
 have cJ := o.lt
 have cK := D.lt
 have cL := E.lt
 have cM := m.lt
 have hb := Qbv hm; clear hm; obtain ⟨n1, rfl, hm⟩ := hb
 generalize T : Qc3 (Qfk p1 x1) n1 = ag at hm
 unfold Qfk at hm
 try dsimp only at hm
 refine Qa3<|qs 3 rfl<|qv rfl (Qa2 (v := .int .i64 a2) Qg7 rfl m rfl)<|qm rfl<|qv rfl (Qc2 (a := a2) (b := x1) rfl rfl)<|Qa1 ?_
 refine cnF rfl (fun c1 => ?_) (fun c1 => ?_)
 · replace hm := iF c1 hm
   refine Qbp<|Qb4<|Qb4<|Qbq ?_
   obtain ⟨bS, ao, U⟩ := MkI.leave MKw6
   have ap := MkI.stb hJ MKw6 JLw6 U
   have aq := MkI.trans MKw6 KLw6 U
   have he := Option.some.inj hm
   have hl := Dr.last (c := (fun (x : Int × Int) => ([.int .i64 x.1, .int .i64 x.2] : List Value))) dl1 he.symm
   refine ⟨_, _, ao, Qh6 rfl, aq, .inl ⟨_, sl1, ?_⟩⟩
   rw [← hl]; exact ap
 replace hm := iT c1 hm
 refine qu<|Qa3<|Qan<|Qa3<|qs 3 rfl ?_
 refine qv rfl (Qa0 Qlt rfl)<|qv rfl (Qa2 (v := bv p1.kind) Qcu rfl o rfl)<|qv rfl (Qj9 (p := p1.kind) (q := 1#8) rfl rfl)<|Qa1<|Qam rfl (fun c2 => ?_) (fun c2 => ?_)
 · replace hm := iT c2 hm
   refine Qa3<|Qa3<|dw [fpl1] [] (.leaf [(0,10),(1,10),(2,10),(3,0),(4,0),(5,0)]) ?_
   intro w7 G7 dj
   refine Qal ?_
   have aR := (E.gr G7)
   refine qh 0 rfl rfl (Kp.refl fpl1 w7) (fun w hS => Qa2 Xbv rfl (Bx.kp aR hS d) rfl) ?_
   have aS := (m.gr G7)
   refine qh 0 rfl rfl (Kp.refl fpl1 w7) (fun w hS => Qa2 (v := .int .i64 a2) Qg7 rfl (Bx.kp aS hS e) rfl)<|dn 0 rfl rfl (Kp.refl fpl1 w7) ?_
   obtain ⟨x3, bT, hm⟩ := bnd hm
   refine qz [] rfl (eC Xcw rfl (Qh8 bT)) ⟨fun _ => tk0, trivial⟩ ?_
   rintro _ w8 ⟨rfl, G8⟩
   have bU := (hJ.gr JLw6 G7)
   have dk := G8.size
   refine kG G8 ?_
   have bV := (hJ.gr bU G8)
   have Y1 := Gr.trans G7 G8
   have KI45 : Kp fp w w8 := (KLw6.gr Y1)
   obtain ⟨rr43, hm, he43⟩ := Qvc hm
   have ah := Dr.at dl1 he43
   have hd43 := Dr.next dl1 he43
   have bW := (o.gr Y1)
   have bX := (D.gr Y1)
   have bY := (aR.gr G8)
   have bZ := (aS.gr G8)
   refine Xvh rfl rfl rfl (Qqq rfl rfl (hY _ _ _ _ (Xij ah) bV KI45 sl1)) ?_
   rintro _ w9 ⟨bb, rfl, KF43, u, hg43, hJb⟩
   refine ⟨fun S => Kp.trans S KF43 (fun b hb => Or.inl hb), ?_⟩
   have dl := KF43.size
   have sub43 : ∀ c ∈ u, c ∈ fp ∨ w.heap.size ≤ c := Qkz sl1 hg43 (by omega)
   have MK51 := (MKw6.gr Y1)
   have MK43 := MkI.kp MK51 KF43 hg43
   have aT := Qb7 hg43 f (by omega)
   have aU := Qb7 hg43 g (by omega)
   have aV := Qb7 hg43 d (by omega)
   have cN := Qb7 hg43 e (by omega)
   cases bb
   · have Jy43 : Jx (ad + 1) u w9 := hJb
     refine qw rfl (Qci rfl)<|Qa1<|Qjs rfl<|Qag<|Qb2<|Qb2<|Qbo ?_
     refine Qb2<|Qb2<|Qbo ?_
     have KI56 : Kp fp w w9 := (KI45.trans KF43 sl1)
     obtain ⟨cO, aW, ai⟩ := MkI.leave MK43
     have aX := MkI.stb hJx MK43 Jy43 ai
     have aY := MkI.trans MK43 KI56 ai
     exact ⟨_, _, aW, Qh6 rfl, aY, .inr ⟨_, _, sub43, (by rw [List.length_map]; exact (List.getElem?_eq_some_iff.1 ah).1), aX⟩⟩
   have Jy43 : J (ad + 1) u w9 := hJb
   refine qw rfl (Qci rfl)<|Qa1<|Qkv rfl<|qu<|Qbp<|Qb4 ?_
   refine Qbq<|Qaz<|Qa3<|qs 1 rfl ?_
   have b0 := (Bx.kp bZ KF43 e)
   refine qv rfl (Qa2 (v := .int .i64 a2) Qg7 rfl b0 rfl)<|Qa1<|qg 2 rfl<|qe rfl (Qa8 (cs := [.int .i64 0]) Xdh rfl) ?_
   rintro _ dp ⟨aZ, rfl, b2, V, F⟩
   have dq := F.size
   have cP := V.lt
   have X : aZ ∉ u := fun h => absurd (hJ.lt Jy43 _ h) (by omega)
   refine qe rfl (Qe9 (cs' := [.int .i64 a2]) (Qg7).siz rfl rfl rfl V rfl rfl) ?_
   rintro _ dr ⟨aj, G⟩
   have b3 := (hJ.gr Jy43 F)
   have MK63 := (MK43.gr F)
   have ds := G.size
   refine Qa1<|qg 4 rfl<|qv rfl (Qa2 (v := .int .i64 a2) Qg7 rfl aj rfl)<|qm rfl ?_
   obtain ⟨x4, b5, hm⟩ := bnd hm
   refine qe rfl (eC Xcw rfl (Qh8 b5)) ?_
   rintro _ dt ⟨rfl, y⟩
   have b6 := (hJ.md b3 G X)
   have du := y.size
   have a0 := (aj.gr y)
   refine qe rfl (Qe9 (cs' := [.int .i64 x4]) (Qg7).siz rfl rfl rfl a0 rfl rfl) ?_
   rintro _ b7 ⟨a1, H⟩
   have b8 := (hJ.gr b6 y)
   have MK69 := ((MK63.md G V).gr y)
   have dv := H.size
   refine Qa9 ?_
   have b9 := (hJ.md b8 H X)
   have KI72 : Kp fp w b7 := (((((KI45.trans KF43 sl1).gr F).md G (Or.inr (by omega))).gr y).md H (Or.inr (by omega)))
   have ca := (((((Bx.kp bW KF43 f).gr F).md G).gr y).md H)
   have cb := (((((Bx.kp bX KF43 g).gr F).md G).gr y).md H)
   have cc := (((((Bx.kp bY KF43 d).gr F).md G).gr y).md H)
   have MK76 := (MK69.md H a0)
   subst T
   exact ⟨⟨n1, x4, aZ, (ad + 1), u, rr43⟩, ks1, rfl, sbq, ⟨hm, hd43, b9, sub43, KI72, ca, cb, cc, aT, aU, aV, a1, X, (by omega), (by omega), (by omega), (by omega), MK76⟩, Nat.lt_succ_self _⟩
 replace hm := iF c2 hm
 refine qu<|qs 3 rfl<|qv rfl (Qa2 (v := .int .i64 a2) Qg7 rfl m rfl)<|qm rfl ?_
 obtain ⟨x5, cd, hm⟩ := bnd hm
 refine qe rfl (eC Xgh rfl (Qq2 cd)) ?_
 rintro _ ar ⟨P, Q, rfl, j, aE, k, aF, z⟩
 have dy := z.size
 have cQ := j.lt
 have A : P ∉ fpl1 := fun h => absurd (hJ.lt JLw6 _ h) (by omega)
 have cR := k.lt
 have B : Q ∉ fpl1 := fun h => absurd (hJ.lt JLw6 _ h) (by omega)
 refine Qa1<|Qan ?_
 obtain ⟨l6, ce, hm⟩ := bnd hm
 have cf := (hJ.gr JLw6 z)
 have KI83 : Kp fp w ar := (KLw6.gr z)
 have a3 := (o.gr z)
 have a4 := (D.gr z)
 have a5 := (E.gr z)
 have a6 := (m.gr z)
 have MK88 := (MKw6.gr z)
 have MZ89 := MK88
 refine Qi1 (gf := 239) rfl Xfh (Qmp x5.1 x5.2 _ _ _ ce _ j k) (by intro x hx; obtain ⟨a, _, rfl⟩ := List.mem_map.1 hx; rfl) rfl _ _ fpl1 (Qwk (α := Nat × List Nat × (List (Int × Int))) (fun ⟨kk, fpl, rl⟩ rk => (itL (Qfn p1 a2) (Qfm x1 a2 ag) (List.drop rk l6) () = some rl) ∧ Dr xs kk rl ∧ (∀ c ∈ fpl, c ∈ fp ∨ w.heap.size ≤ c) ∧ (∀ c ∈ fpl, c ∈ fpl1 ∨ ar.heap.size ≤ c)) (fun ⟨kk, fpl, rl⟩ => fpl) (fun ⟨kk, fpl, rl⟩ W => J kk fpl W) (by rintro ⟨kk, fpl, rl⟩ W h b hb; exact hJ.lt h b hb) (by rintro ⟨kk, fpl, rl⟩ W W' h he hs; exact hJ.keep h he hs)) (fun c => Xqg (c = .ret) (Qwk (α := Nat × List Nat) (fun ⟨kk, fpl⟩ rk => kk ≤ xs.length ∧ (∀ c ∈ fpl, c ∈ fp ∨ w.heap.size ≤ c) ∧ (∀ c ∈ fpl, c ∈ fpl1 ∨ ar.heap.size ≤ c)) (fun ⟨kk, fpl⟩ => fpl) (fun ⟨kk, fpl⟩ W => Jx kk fpl W) (by rintro ⟨kk, fpl⟩ W h b hb; exact hJx.lt h b hb) (by rintro ⟨kk, fpl⟩ W W' h he hs; exact hJx.keep h he hs))) (by intro b hb; simp only [List.mem_cons, List.mem_append, Qc5, List.not_mem_nil, or_false, false_or, not_or, ne_eq, List.nil_append, List.cons_append, true_and, and_true, false_and, and_false, not_true_eq_false, not_false_eq_true, or_true, true_or] at hb; rcases hb with rfl | rfl <;> first | exact ⟨A, by omega⟩ | exact ⟨B, by omega⟩) ⟨(ad, fpl1, rl1), ⟨hm, dl1, sl1, fun c hc => Or.inl hc⟩, rfl, cf⟩ ?_ ?_ ?_
 · rintro l2 rk x fpr2 cg hl hx hIr r hF hln hlt
   clear hm
   obtain ⟨e7, hxe, rfl⟩ := map_some hx
   obtain ⟨⟨_, fpa, _⟩, ⟨_, _, sa, sz⟩, ea, Ja⟩ := hIr
   replace ea : fpr2 = fpa := ea
   subst ea
   replace Ja : J _ fpr2 cg := Ja
   have dz := r.size
   have a7 := Qb7 hF f (by omega)
   have a8 := Qb7 hF g (by omega)
   have a9 := Qb7 hF d (by omega)
   have ba := Qb7 hF e (by omega)
   have bc := Qb7 hF A (by omega)
   have bd := Qb7 hF B (by omega)
   have MKw15 := MkI.kp MZ89 r hF
   refine qg 1 rfl<|qm rfl<|Qa9<|⟨rfl, (Gr.refl _), ?_⟩
   rintro s t ⟨⟨kr2, fpb, rl2⟩, ⟨hm, dr2, sr2, s0r2⟩, eb, Jr2⟩
   replace eb : fpr2 = fpb := eb
   subst eb
   replace Jr2 : J kr2 fpr2 s := Jr2
   have dA := t.size
   replace hm := Qzn hm hxe
   generalize hnx2 : itL (Qfn p1 a2) (Qfm x1 a2 ag) (List.drop (rk + 1) l6) = dB at hm
   unfold Qfn at hm
   try dsimp only at hm
   refine Qan<|qs 3 rfl<|qm rfl ?_
   obtain ⟨x8, ch, hm⟩ := bnd hm
   refine qe rfl (eC Xe5 rfl (Qgc ch)) ?_
   rintro _ dC ⟨rfl, R⟩
   have dD := R.size
   refine qm rfl<|qd 12 rfl ?_
   have be := (((Bx.kp a3 r f).md t).gr R)
   refine qv rfl (Qa4 Qcf rfl be rfl) ?_
   have ak := (((Bx.kp a6 r e).md t).gr R)
   refine qv rfl (Qa2 (v := .int .i64 a2) Qg7 rfl ak rfl)<|qm rfl<|qv rfl (Qas (cs := Qaf.cs (Qaf.mk a2 x8)) Xd1 rfl rfl) ?_
   obtain ⟨x9, ci, hm⟩ := bnd hm
   refine qe rfl (eC Xih rfl (Qj8 ci)) ?_
   rintro _ cj ⟨rfl, I⟩
   have al := (hJ.gr Jr2 R)
   have cS := I.size
   refine qpF rfl (Qac rfl) (fun c3 => ?_) (fun c3 => ?_)
   · replace hm := Qc7 c3 hm
     refine qk rfl<|qk rfl<|qk rfl<|qk rfl<|qk rfl<|qm rfl<|Qa1 ?_
     refine Qkv rfl<|Qc4<|Qay ?_
     have bf := (hJ.gr al I)
     subst hnx2
     have Y2 := Gr.trans R I
     exact ⟨((Kp.refl fpr2 s).gr Y2), fpr2, (fun c hc => Or.inl hc : ∀ c ∈ fpr2, c ∈ fpr2 ∨ s.heap.size ≤ c), (kr2, fpr2, rl2), ⟨hm, dr2, sr2, (Qkz s0r2 (fun c hc => Or.inl hc : ∀ c ∈ fpr2, c ∈ fpr2 ∨ s.heap.size ≤ c) (by omega))⟩, rfl, bf⟩
   replace hm := Qc8 c3 hm
   have Y3 := Gr.trans R I
   have bg := (((Bx.kp a5 r d).md t).gr Y3)
   refine qv rfl (Qa2 Xbv rfl bg rfl) ?_
   have bh := (ak.gr I)
   refine qv rfl (Qa2 (v := .int .i64 a2) Qg7 rfl bh rfl)<|qm rfl ?_
   have bi := (hJ.gr al I)
   have KI107 : Kp fp w cj := (((KI83.trans r sl1).md t (Or.inr (by omega))).gr Y3)
   obtain ⟨rr105, hm, he105⟩ := Qvc hm
   have Y := Dr.at dr2 he105
   have hd105 := Dr.next dr2 he105
   have cT := (be.gr I)
   have cU := (((Bx.kp a4 r g).md t).gr Y3)
   have cV := (((Bx.kp j r A).md t).gr Y3)
   have cW := (((Bx.kp k r B).md t).gr Y3)
   refine qe rfl (Qqq rfl rfl (hY _ _ _ _ (Xij Y) bi KI107 sr2)) ?_
   rintro _ bj ⟨bb, rfl, KF105, i, hg105, hJb⟩
   have cX := KF105.size
   have sub105 : ∀ c ∈ i, c ∈ fp ∨ w.heap.size ≤ c := Qkz sr2 hg105 (by omega)
   have subr105 := Qkz (fun c hc => Or.inl hc : ∀ c ∈ fpr2, c ∈ fpr2 ∨ s.heap.size ≤ c) hg105 (by omega)
   have MK113 := ((MkI.mdl MKw15 t MZ89 hl).gr Y3)
   have MK105 := MkI.kp MK113 KF105 hg105
   have ck := Qb7 hg105 a7 (by omega)
   have cl := Qb7 hg105 a8 (by omega)
   have cm := Qb7 hg105 a9 (by omega)
   have cn := Qb7 hg105 ba (by omega)
   have co := Qb7 hg105 bc (by omega)
   have cp := Qb7 hg105 bd (by omega)
   cases bb
   · have Jy105 : Jx (kr2 + 1) i bj := hJb
     refine qv rfl (Qci rfl)<|qm rfl<|Qa1<|Qjs rfl<|Qag<|Qbo ?_
     exact ⟨(((Kp.refl fpr2 s).gr Y3).trans KF105 (fun c hc => Or.inl hc : ∀ c ∈ fpr2, c ∈ fpr2 ∨ s.heap.size ≤ c)), i, subr105, rfl, ((kr2 + 1), i), ⟨(List.getElem?_eq_some_iff.1 Y).1, sub105, (Qkz s0r2 subr105 (by omega))⟩, rfl, Jy105⟩
   have Jy105 : J (kr2 + 1) i bj := hJb
   refine qv rfl (Qci rfl)<|qm rfl<|Qa1<|Qkv rfl<|Qc4<|Qay ?_
   subst hnx2
   exact ⟨(((Kp.refl fpr2 s).gr Y3).trans KF105 (fun c hc => Or.inl hc : ∀ c ∈ fpr2, c ∈ fpr2 ∨ s.heap.size ≤ c)), i, subr105, ((kr2 + 1), i, rr105), ⟨hm, hd105, sub105, (Qkz s0r2 subr105 (by omega))⟩, rfl, Jy105⟩
 · clear hm; rintro bk fpdw20 bl au Z bm ⟨⟨kd, fpe, rd⟩, ⟨hm, dd, sd, s0d⟩, ed, Jd⟩ K
   replace ed : fpdw20 = fpe := ed
   subst ed
   replace Jd : J kd fpdw20 bl := Jd
   have cY := K.size
   have cq := Df.lt (w := bl) Z
   have av := Qb7 s0d f (by omega)
   have aw := Qb7 s0d g (by omega)
   have ax := Qb7 s0d d (by omega)
   have cr := Qb7 s0d e (by omega)
   have ct := Qb7 s0d A (by omega)
   have cu := Qb7 s0d B (by omega)
   have MKw20 := MkI.cons (MkI.kp MZ89 K s0d) MZ89 au (by omega) Z bm
   replace hm := Qws hm
   unfold Qfm at hm
   try dsimp only at hm
   refine Qay<|Qay<|Qaz<|Qa3<|qs 1 rfl ?_
   have bo := (Bx.kp a6 K e)
   refine qv rfl (Qa2 (v := .int .i64 a2) Qg7 rfl bo rfl)<|Qa1<|qg 2 rfl<|qe rfl (Qa8 (cs := [.int .i64 0]) Xdh rfl) ?_
   rintro _ dE ⟨bp, rfl, cv, aa, L⟩
   have cZ := L.size
   have cw := aa.lt
   have M : bp ∉ fpdw20 := fun h => absurd (hJ.lt Jd _ h) (by omega)
   refine qe rfl (Qe9 (cs' := [.int .i64 a2]) (Qg7).siz rfl rfl rfl aa rfl rfl) ?_
   rintro _ dF ⟨am, N⟩
   have bq := (hJ.gr Jd L)
   have MK137 := (MKw20.gr L)
   have c0 := N.size
   refine Qa1<|qg 4 rfl<|qv rfl (Qa2 (v := .int .i64 a2) Qg7 rfl am rfl)<|qm rfl ?_
   obtain ⟨br, bs, hm⟩ := bnd hm
   refine qe rfl (eC Xcw rfl (Qh8 bs)) ?_
   rintro _ dG ⟨rfl, C⟩
   have bu := (hJ.md bq N M)
   have c5 := C.size
   have an := (am.gr C)
   refine qe rfl (Qe9 (cs' := [.int .i64 br]) (Qg7).siz rfl rfl rfl an rfl rfl) ?_
   rintro _ cx ⟨bw, O⟩
   have bx := (hJ.gr bu C)
   have MK143 := ((MK137.md N aa).gr C)
   have c6 := O.size
   refine Qa9 ?_
   have bz := (hJ.md bx O M)
   have KI146 : Kp fp w cx := (((((KI83.trans K sl1).gr L).md N (Or.inr (by omega))).gr C).md O (Or.inr (by omega)))
   have bA := (((((Bx.kp a3 K f).gr L).md N).gr C).md O)
   have bB := (((((Bx.kp a4 K g).gr L).md N).gr C).md O)
   have bC := (((((Bx.kp a5 K d).gr L).md N).gr C).md O)
   have MK150 := (MK143.md O an)
   subst T
   exact ⟨⟨n1, br, bp, kd, fpdw20, rd⟩, (bk :: ks1), rfl, sbq, ⟨hm, dd, bz, sd, KI146, bA, bB, bC, av, aw, ax, bw, M, (by omega), (by omega), (by omega), (by omega), MK150⟩, Nat.lt_succ_self _⟩
 clear hm; rintro c7 c rk fpdw25 ay az ab bD hle ⟨rfl, ⟨kd, fpe⟩, ⟨led, sd, s0d⟩, ed, Jd⟩ aA
 replace ed : fpdw25 = fpe := ed
 subst ed
 replace Jd : Jx kd fpdw25 ay := Jd
 have c8 := aA.size
 have cy := Df.lt (w := ay) ab
 have cz := Qb7 s0d f (by omega)
 have cA := Qb7 s0d g (by omega)
 have cB := Qb7 s0d d (by omega)
 have cC := Qb7 s0d e (by omega)
 have cD := Qb7 s0d A (by omega)
 have cE := Qb7 s0d B (by omega)
 have MKw25 := MkI.cons (MkI.kp MZ89 aA s0d) MZ89 az (by omega) ab bD
 refine Qag<|Qbo<|Qbo<|Qb2<|Qb2<|Qbo ?_
 have KI159 : Kp fp w ay := (KI83.trans aA sl1)
 obtain ⟨cF, aB, ac⟩ := MkI.leave MKw25
 have aC := MkI.stb hJx MKw25 Jd ac
 have aD := MkI.trans MKw25 KI159 ac
 exact ⟨_, _, aB, Qh6 rfl, aD, .inr ⟨_, _, sd, (by rw [List.length_map]; exact led), aC⟩⟩
theorem Qmv {p0 p1 r} (hm : Qfz p0 p1 = some r) {w : World} :
    Calls Tryz.prog 195 [kv p0, .int .i64 p1].toArray w fun e w' => ∃ v, e = .returned v ∧ (v = kv r ∧ Gr w w') := by
 unfold Qfz at hm
 refine Qa5 9 Tryz.func195 rfl rfl rfl<|qs 2 rfl<|qe rfl (Qaq (cs := kb p0) rfl rfl) ?_
 rintro _ w1 ⟨b1, rfl, d, a, G1⟩
 have g := a.lt
 refine qe rfl (Qa8 (cs := kb k0) Qeo rfl) ?_
 rintro _ w2 ⟨b2, rfl, f, b, G2⟩
 refine qd 5 rfl ?_
 have B5 := (a.gr G2)
 refine qv rfl (Qa4 Qak rfl B5 rfl)<|qm rfl<|qv rfl (Qfe Xhb rfl)<|qe rfl (eC Qpe rfl (Qes p0 (un8 30#8) (Qiy _) (Qiw _) (wd p1) _)) ?_
 rintro _ w3 ⟨rfl, G3⟩
 have B7 := (b.gr G3)
 refine qe rfl (Qaj Qak rfl rfl rfl B7 rfl rfl) ?_
 rintro _ w4 ⟨c, M4⟩
 refine Qa1<|Qag ?_
 have X9 := (((((Gr.refl w).trans G1).trans G2).trans G3).md M4)
 cases hm
 refine ⟨_, _, rfl, Qb1 rfl (Qap Qak rfl c rfl), ?_⟩
 exact ⟨rfl, X9⟩
theorem Qmz {p0 p1 p2 r} (hm : Qeu p0 p1 p2 = some r) {w : World} :
    Calls Tryz.prog 197 [kv p0, .int .i64 p1, .int .i64 p2].toArray w fun e w' => ∃ v, e = .returned v ∧ (v = kv r ∧ Gr w w') := by
 unfold Qeu at hm
 refine Qa5 20 Tryz.func197 rfl rfl rfl<|qs 2 rfl<|qe rfl (Qaq (cs := kb p0) rfl rfl) ?_
 rintro _ w1 ⟨b1, rfl, P, m, G1⟩
 have S := m.lt
 refine qe rfl (Qa8 (cs := kb k0) Qeo rfl) ?_
 rintro _ w2 ⟨b2, rfl, Q, n, G2⟩
 have T := n.lt
 refine Qa1<|Qa3<|qs 3 rfl<|qm rfl<|qm rfl ?_
 obtain ⟨x1, D, hm⟩ := bnd hm
 refine qe rfl (eC Xgh rfl (Qq2 D)) ?_
 rintro _ w3 ⟨o, p, rfl, d, q, f, s, G3⟩
 have U := d.lt
 have V := f.lt
 refine Qa1<|Qan ?_
 obtain ⟨l2, F, hm⟩ := bnd hm
 have X8 := ((((Gr.refl w).trans G1).trans G2).trans G3)
 have B9 := ((m.gr G2).gr G3)
 have G := (n.gr G3)
 refine Qi1 (gf := 239) rfl Xfh (Qmp x1.1 x1.2 _ _ _ F _ d f) (by intro x hx; obtain ⟨a, _, rfl⟩ := List.mem_map.1 hx; rfl) rfl _ (fun _ _ _ _ => False) ([b1]) (Qwk (α := W2) (fun a4 rk => itL Qft Qhc (List.drop rk l2) a4 = some r) (fun a4 => ([b1])) (fun a4 W => Bx W b1 23 (kb a4) ∧ True) (by rintro a4 W ⟨F0, _⟩ b hb; have q0 := F0.lt; replace hb : b ∈ ([b1]) := hb; simp only [List.mem_cons, List.mem_append, Qc5, List.not_mem_nil, or_false, false_or, not_or, ne_eq, List.nil_append, List.cons_append, true_and, and_true, false_and, and_false, not_true_eq_false, not_false_eq_true, or_true, true_or] at hb; omega) (by rintro a4 W W' ⟨F0, _⟩ E hs; replace hs : ∀ b ∈ ([b1]), W'.heap[b]? = W.heap[b]? := hs; exact ⟨(hs _ (by simp)).trans F0, trivial⟩)) (fun _ => Qqa) (by intro b hb; simp only [List.mem_cons, List.mem_append, Qc5, List.not_mem_nil, or_false, false_or, not_or, ne_eq, List.nil_append, List.cons_append, true_and, and_true, false_and, and_false, not_true_eq_false, not_false_eq_true, or_true, true_or] at hb ⊢; omega) ⟨p0, hm, rfl, B9, trivial⟩ ?_ ?_ ?_
 · rintro l rk x fp w4 hl hx _ K4 hF hln hlt
   clear hm
   obtain ⟨e5, hxe, rfl⟩ := map_some hx
   have X : Kz [(1, b1)] w3 w4 := Qm2 K4 (by intro k hk; simp only [Nin, and_true, List.mem_cons, List.mem_append, Qc5, List.not_mem_nil, or_false, false_or, not_or, ne_eq, List.nil_append, List.cons_append, true_and, and_true, false_and, and_false, not_true_eq_false, not_false_eq_true, or_true, true_or] at hk ⊢; omega)
   refine qg 1 rfl<|qm rfl<|Qa9<|⟨rfl, (Gr.refl _), ?_⟩
   rintro w5 M5 ⟨a4, hm, rfl, g, -⟩
   replace hm := Qzn hm hxe
   generalize hnx1 : itL Qft Qhc (List.drop (rk + 1) l2) = H at hm
   unfold Qft at hm
   try dsimp only at hm
   refine Qan<|qs 1 rfl<|qm rfl<|Qa1 ?_
   refine qj (β := BitVec 8) [8, 13, 14, 15] (fun a6 => [(8, bv a6)]) (fun a6 wr => (Qhg a4 H a6 = some r) ∧ Kz [] w5 wr) ?_ ?_
   · refine qs 3 rfl<|qm rfl ?_
     obtain ⟨x7, I, hm⟩ := bnd hm
     refine qv rfl (Qjv (a := e5) (b := 2) rfl rfl I)<|qv rfl (Qeh (a := x7) (b := 1) rfl rfl)<|Qa1<|cnF rfl (fun c1 => ?_) (fun c1 => ?_)
     · replace hm := iF c1 hm
       refine Qc4 ?_
       exact ⟨rfl, 31#8, sbq, hm, kz0⟩
     replace hm := iT c1 hm
     refine qg 1 rfl<|qm rfl<|Qa9 ?_
     exact ⟨rfl, 32#8, sbq, hm, kz0⟩
   clear hm; rintro a6 w6 ⟨hm, K6⟩
   unfold Qhg at hm
   refine qg 4 rfl ?_
   have t := (g.kz K6)
   refine qv rfl (Qa4 Qak rfl t rfl)<|qm rfl<|qe rfl (eC Qpe rfl (Qes a4 (un8 a6) (Qiy _) (Qiw _) 0#64 _)) ?_
   rintro _ w7 ⟨rfl, G7⟩
   have J := (t.gr G7)
   refine qe rfl (Qaj Qak rfl rfl rfl J rfl rfl) ?_
   rintro _ w8 ⟨K, M8⟩
   refine Qa9<|Qay ?_
   have K_20 : Kz [(1, b1)] w5 w8 := (((Kz.kz (Kz.refl _ _) K6).gr G7).md M8)
   have Kq20 : Kp ([b1]) w5 w8 := Qsx K_20 (by intro k hk; simp only [Nin, and_true, List.mem_cons, List.mem_append, Qc5, List.not_mem_nil, or_false, false_or, not_or, ne_eq, List.nil_append, List.cons_append, true_and, and_true, false_and, and_false, not_true_eq_false, not_false_eq_true, or_true, true_or] at hk ⊢; omega)
   subst hnx1
   exact ⟨Kq20, ([b1]), (by intro c hc; simp only [List.mem_cons, List.mem_append, Qc5, List.not_mem_nil, or_false, false_or, not_or, ne_eq, List.nil_append, List.cons_append, true_and, and_true, false_and, and_false, not_true_eq_false, not_false_eq_true, or_true, true_or] at hc ⊢; omega), ⟨drv a4 (un8 a6) 0#64, hm, rfl, K, trivial⟩⟩
 · clear hm; rintro i fp w9 R u L ⟨a4, hm, rfl, j, -⟩ K9
   replace hm := Qws hm
   have y : Kz [(1, b1)] w3 w9 := Qm2 K9 (by intro k hk; simp only [Nin, and_true, List.mem_cons, List.mem_append, Qc5, List.not_mem_nil, or_false, false_or, not_or, ne_eq, List.nil_append, List.cons_append, true_and, and_true, false_and, and_false, not_true_eq_false, not_false_eq_true, or_true, true_or] at hk ⊢; omega)
   simp only [List.mem_cons, List.mem_append, Qc5, List.not_mem_nil, or_false, false_or, not_or, ne_eq, List.nil_append, List.cons_append, true_and, and_true, false_and, and_false, not_true_eq_false, not_false_eq_true, or_true, true_or, not_and] at L
   unfold Qhc at hm
   try dsimp only at hm
   refine Qay<|Qaz<|qs 2 rfl<|qv rfl (Qa4 Qak rfl j rfl) ?_
   have M := (G.kz y)
   refine qe rfl (Qaj Qak rfl rfl rfl M rfl rfl) ?_
   rintro _ z ⟨A, B⟩
   refine Qa1<|Qag ?_
   have DL28 := (Df.md u B)
   have C := Md.put (w := z) i (.deferred none)
   have N := (A.md C)
   have O : Gr w (z.putObj i (.deferred none)) := (((X8.kz y).md B).md C)
   cases hm
   refine ⟨_, _, ⟨i, rfl, DL28, rfl⟩, Qb1 rfl (Qap Qak rfl N rfl), ?_⟩
   exact ⟨rfl, O⟩
 rintro _ _ _ _ _ _ _ _ _ h _
 exact h.elim
theorem Qrd {p0 r} (hm : Qjq p0 = some r) {w : World} :
    Calls Tryz.prog 196 [kv p0].toArray w fun e w' => ∃ v, e = .returned v ∧ (v = kv r ∧ Gr w w') := by
 unfold Qjq at hm
 refine Qa5 5 Tryz.func196 rfl rfl rfl<|qs 2 rfl<|qe rfl (Qaq (cs := kb p0) rfl rfl) ?_
 rintro _ w1 ⟨b1, rfl, d, a, G1⟩
 have g := a.lt
 refine qe rfl (Qa8 (cs := kb k0) Qeo rfl) ?_
 rintro _ w2 ⟨b2, rfl, f, b, G2⟩
 refine qd 3 rfl ?_
 have B5 := (a.gr G2)
 refine qv rfl (Qa4 Qak rfl B5 rfl)<|qe rfl (eC Qpe rfl (Qes p0 (un8 33#8) (Qiy _) (Qiw _) 0#64 _)) ?_
 rintro _ w3 ⟨rfl, G3⟩
 have B7 := (b.gr G3)
 refine qe rfl (Qaj Qak rfl rfl rfl B7 rfl rfl) ?_
 rintro _ w4 ⟨c, M4⟩
 refine Qa1<|Qag ?_
 have X9 := (((((Gr.refl w).trans G1).trans G2).trans G3).md M4)
 cases hm
 refine ⟨_, _, rfl, Qb1 rfl (Qap Qak rfl c rfl), ?_⟩
 exact ⟨rfl, X9⟩
theorem Qpi {p0 p1 p2 r} (hm : Qev p0 p1 p2 = some r) {w : World} :
    Calls Tryz.prog 122 [.agg (Qa6.cs p0).toArray, kv p1, .agg (Qaf.cs p2).toArray].toArray w fun e w' => ∃ v, e = .returned v ∧ (v = kv r ∧ Gr w w') := by
 unfold Qev at hm
 refine Qa5 32 Tryz.func122 rfl rfl rfl<|qs 4 rfl<|qe rfl (Qaq (cs := Qa6.cs p0) rfl rfl) ?_
 rintro _ w1 ⟨b1, rfl, H, f, G1⟩
 have L := f.lt
 refine qe rfl (Qaq (cs := kb p1) rfl rfl) ?_
 rintro _ w2 ⟨b2, rfl, I, c, G2⟩
 have M := c.lt
 refine qe rfl (Qaq (cs := Qaf.cs p2) rfl rfl) ?_
 rintro _ w3 ⟨b3, rfl, J, g, G3⟩
 have N := g.lt
 refine qe rfl (Qa8 (cs := kb k0) Qeo rfl) ?_
 rintro _ w4 ⟨b4, rfl, K, d, G4⟩
 refine Qa1<|Qa3<|dw [([])] [] (.leaf [(0,10),(1,10),(2,10),(3,10),(4,10),(5,10)]) ?_
 intro w5 G5 O
 refine Qal<|dh 0 rfl rfl (fun w hS => Qa0 Qpd rfl) ?_
 have Y1 := Gr.trans G4 G5
 have B9 := (g.gr Y1)
 refine dh 0 rfl rfl (fun w hS => Qa2 (v := .int .i64 p2.Node) Qaw rfl (Bx.kp B9 hS) rfl)<|dh 0 rfl rfl (fun w hS => Qa0 Qk7 rfl)<|dh 0 rfl rfl (fun w hS => Qa2 (v := .int .i64 p2.Minus) Qaw rfl (Bx.kp B9 hS) rfl)<|dm 0 rfl rfl<|dm 0 rfl rfl<|Qa1<|Qa3 ?_
 refine Qan<|qs 4 rfl<|qv rfl (Qa0 Qlt rfl) ?_
 have Y2 := Gr.trans (Gr.trans G2 G3) Y1
 have l := (f.gr Y2)
 refine qv rfl (Qa2 (v := bv p0.kind) Qcu rfl l rfl)<|qv rfl (Qj9 (p := p0.kind) (q := 1#8) rfl rfl)<|qm rfl<|Qa1<|Qam rfl (fun c1 => ?_) (fun c1 => ?_)
 · replace hm := iT c1 hm
   refine qs 4 rfl ?_
   have Y3 := Gr.trans G3 Y1
   have m := (c.gr Y3)
   refine qv rfl (Qa4 Qak rfl m rfl)<|qm rfl ?_
   obtain ⟨x1, n, hm⟩ := bnd hm
   refine qe rfl (eC Xha rfl (Qmv n)) ?_
   rintro _ w6 ⟨rfl, G6⟩
   have o := ((d.gr G5).gr G6)
   refine qe rfl (Qaj Qak rfl rfl rfl o rfl rfl) ?_
   rintro _ w7 ⟨s, M7⟩
   refine Qa1<|Qag<|Qbo<|Qb2 ?_
   have t := (((((Gr.refl w).trans G1).trans Y2).trans G6).md M7)
   cases hm
   refine ⟨_, _, rfl, Qb1 rfl (Qap Qak rfl s rfl), ?_⟩
   exact ⟨rfl, t⟩
 replace hm := iF c1 hm
 refine qs 3 rfl<|qm rfl<|qv rfl (Qeh (a := p2.Minus) (b := 0) rfl rfl)<|qm rfl<|Qa1<|Qam rfl (fun c2 => ?_) (fun c2 => ?_)
 · replace hm := iT c2 hm
   refine qs 3 rfl ?_
   have Y4 := Gr.trans G3 Y1
   have u := (c.gr Y4)
   refine qv rfl (Qa4 Qak rfl u rfl)<|qe rfl (eC Qpe rfl (Qes p1 (un8 34#8) (Qiy _) (Qiw _) 0#64 _)) ?_
   rintro _ w8 ⟨rfl, G8⟩
   have x := ((d.gr G5).gr G8)
   refine qe rfl (Qaj Qak rfl rfl rfl x rfl rfl) ?_
   rintro _ w9 ⟨y, M9⟩
   refine Qa1<|Qag<|Qbo<|Qb2 ?_
   have z := (((((Gr.refl w).trans G1).trans Y2).trans G8).md M9)
   cases hm
   refine ⟨_, _, rfl, Qb1 rfl (Qap Qak rfl y rfl), ?_⟩
   exact ⟨rfl, z⟩
 replace hm := iF c2 hm
 refine Qc4<|Qay<|Qaz<|qs 8 rfl ?_
 have Y5 := Gr.trans G3 Y1
 have A := (c.gr Y5)
 refine qv rfl (Qa4 Qak rfl A rfl)<|qm rfl ?_
 obtain ⟨x2, B, hm⟩ := bnd hm
 refine qe rfl (eC Xha rfl (Qmv B)) ?_
 rintro _ P ⟨rfl, h⟩
 refine qm rfl<|qm rfl ?_
 obtain ⟨x3, C, hm⟩ := bnd hm
 refine qe rfl (eC Xgn rfl (Qmz C)) ?_
 rintro _ Q ⟨rfl, i⟩
 obtain ⟨x4, D, hm⟩ := bnd hm
 refine qe rfl (eC Xm0 rfl (Qrd D)) ?_
 rintro _ R ⟨rfl, j⟩
 have Y6 := Gr.trans (Gr.trans (Gr.trans G5 h) i) j
 have E := (d.gr Y6)
 refine qe rfl (Qaj Qak rfl rfl rfl E rfl rfl) ?_
 rintro _ S ⟨k, F⟩
 refine Qa1<|Qag ?_
 have G := (((((((Gr.refl w).trans G1).trans Y2).trans h).trans i).trans j).md F)
 cases hm
 refine ⟨_, _, rfl, Qb1 rfl (Qap Qak rfl k rfl), ?_⟩
 exact ⟨rfl, G⟩
theorem Qx3 {p0 p1 p2 r} (hm : Ql5 p0 p1 p2 = some r) {w : World} :
    Calls Tryz.prog 137 [kv p0, .agg (Qa7.cs p1).toArray, .int .i64 p2].toArray w fun e w' => ∃ v, e = .returned v ∧ (∃ ur0_1 zr0_1 gr0_1, v = .tuple [.agg (Qae.cs r.1 ur0_1).toArray, .int .i64 r.2].toArray ∧ Own w' zr0_1 gr0_1 92 18 ur0_1 (r.1.Labels.map Qb8.cs) ∧ Hdn (zr0_1 = 0 ∨ w.heap.size ≤ gr0_1) ∧ Gr w w') := by
 unfold Ql5 at hm
 refine Qa5 61 Tryz.func137 rfl rfl rfl<|qs 4 rfl<|qe rfl (Qaq (cs := kb p0) rfl rfl) ?_
 rintro _ w1 ⟨b1, rfl, bo, ah, G1⟩
 have bE := ah.lt
 refine qe rfl (Qaq (cs := Qa7.cs p1) rfl rfl) ?_
 rintro _ w2 ⟨b2, rfl, bp, ai, G2⟩
 have bF := ai.lt
 refine qe rfl (Qa8 (cs := Qae.cs (Qae.mk 0 [] (Qah.mk 0#64 0#64)) (.slice none 0 0)) Xbe rfl) ?_
 rintro _ w3 ⟨b3, rfl, bq, I, G3⟩
 have bG := I.lt
 refine qm rfl<|qd 8 rfl ?_
 have B7 := (ai.gr G3)
 refine qv rfl (Qa4 Qcn rfl B7 rfl) ?_
 obtain ⟨x1, aJ, hm⟩ := bnd hm
 refine qe rfl (eC Xeb rfl (Qlw aJ (Own.rd (Qax _ 0 131 2)))) ?_
 rintro _ w4 ⟨rfl, G4⟩
 have z8 := G4.size
 refine qm rfl<|qm rfl<|qm rfl<|qe rfl (Qa8 (cs := Qa6.cs (Qa6.mk 0#8 0 0)) Qr8 rfl) ?_
 rintro _ w5 ⟨b5, rfl, br, aj, G5⟩
 have bs := aj.lt
 refine qe rfl (Qaj Qcf rfl rfl rfl aj rfl rfl) ?_
 rintro _ w6 ⟨ak, M6⟩
 have bH := M6.size
 refine qm rfl<|Qa1<|Qa3<|qs 2 rfl<|qm rfl<|qv rfl (Qc2 (a := x1.2) (b := 0) rfl rfl) ?_
 refine Qa1<|Qam rfl (fun c1 => ?_) (fun c1 => ?_)
 · replace hm := iT c1 hm
   refine qs 4 rfl<|qv rfl (Qas (cs := Qae.cs (Qae.mk 0 [] (Qah.mk 0#64 0#64)) (.slice none 0 0)) Qy8 rfl rfl)<|qm rfl ?_
   have Y1 := Gr.trans G4 G5
   have aK := ((I.gr Y1).md M6)
   refine qe rfl (Qaj Qeg rfl rfl (Qae.cs_ones _ _ rfl) aK rfl rfl) ?_
   rintro _ w7 ⟨aL, M7⟩
   refine qm rfl<|qb ?_
   have Y2 := Gr.trans (Gr.trans (Gr.trans G1 G2) G3) Y1
   have aM := ((((Gr.refl w).trans Y2).md M6).md M7)
   cases hm
   refine ⟨_, _, rfl, Qbk rfl (Qap Qeg rfl aL rfl) (Qab rfl), ?_⟩
   exact ⟨(.slice none 0 0), 0, 0, rfl, (Qax _ 0 92 18), ⟨.inl rfl⟩, aM⟩
 replace hm := iF c1 hm
 refine qu<|Qa3<|qs 4 rfl<|qv rfl (Qa4 Qcf rfl ak rfl)<|qm rfl ?_
 obtain ⟨x2, aN, hm⟩ := bnd hm
 refine qe rfl (eC Xmk rfl (Qlb aN)) ?_
 rintro _ w8 ⟨rfl, G8⟩
 have bI := G8.size
 refine qv rfl (Qci rfl)<|Qa1<|Qam rfl (fun c2 => ?_) (fun c2 => ?_)
 · replace hm := Qc8 c2 hm
   refine qs 3 rfl<|qv rfl (Qas (cs := Qae.cs (Qae.mk 0 [] (Qah.mk 0#64 0#64)) (.slice none 0 0)) Qy8 rfl rfl) ?_
   have Y3 := Gr.trans G4 G5
   have aO := (((I.gr Y3).md M6).gr G8)
   refine qe rfl (Qaj Qeg rfl rfl (Qae.cs_ones _ _ rfl) aO rfl rfl) ?_
   rintro _ w9 ⟨aP, M9⟩
   refine qm rfl<|qb ?_
   have Y4 := Gr.trans (Gr.trans (Gr.trans G1 G2) G3) Y3
   have aQ := (((((Gr.refl w).trans Y4).md M6).trans G8).md M9)
   cases hm
   refine ⟨_, _, rfl, Qbk rfl (Qap Qeg rfl aP rfl) (Qab rfl), ?_⟩
   exact ⟨(.slice none 0 0), 0, 0, rfl, (Qax _ 0 92 18), ⟨.inl rfl⟩, aQ⟩
 replace hm := Qc7 c2 hm
 refine qu<|qs 4 rfl<|qm rfl<|qv rfl (Qas (cs := Qae.cs (Qae.mk p2 [] (Qah.mk 0#64 0#64)) (.slice none 0 0)) Qy8 rfl rfl)<|qe rfl (Qa8 (cs := Qae.cs (Qae.mk 0 [] (Qah.mk 0#64 0#64)) (.slice none 0 0)) Xbe rfl) ?_
 rintro _ bJ ⟨d, rfl, aR, N, aS⟩
 have bu := N.lt
 refine qe rfl (Qaj Qeg rfl rfl (Qae.cs_ones _ _ rfl) N rfl rfl) ?_
 rintro _ bK ⟨al, B⟩
 have bL := B.size
 refine Qa1<|Qa3<|qs 3 rfl ?_
 have Y5 := Gr.trans G8 aS
 have am := ((ak.gr Y5).md B)
 refine qv rfl (Qa4 Qcf rfl am rfl)<|qm rfl ?_
 obtain ⟨x3, aT, hm⟩ := bnd hm
 refine qe rfl (eC Xra rfl (Qs9 aT)) ?_
 rintro _ C ⟨ad, ae, rfl, f, af, g, ag, t⟩
 have bM := t.size
 have bw := f.lt
 have bx := g.lt
 refine Qa1<|Qan ?_
 obtain ⟨l4, aU, hm⟩ := bnd hm
 have Y6 := Gr.trans (Gr.trans (Gr.trans (Gr.trans G1 G2) G3) G4) G5
 have aV := ((((((Gr.refl w).trans Y6).md M6).trans Y5).md B).trans t)
 have Y7 := Gr.trans (Gr.trans (Gr.trans G2 G3) G4) G5
 have an := (((((ah.gr Y7).md M6).gr Y5).md B).gr t)
 have Y8 := Gr.trans G4 G5
 have aW := (((((I.gr Y8).md M6).gr Y5).md B).gr t)
 have aX := (am.gr t)
 have aY := (al.gr t)
 refine Qi1 (gf := 251) rfl Xrs (Qpt x3.1 x3.2 _ _ _ aU _ f g) (by intro x hx; obtain ⟨a, _, rfl⟩ := List.mem_map.1 hx; rfl) rfl _ (fun _ _ _ _ => False) ([d] ++ zf 0 0) (Qwk (α := List Qb8 × Value × Nat × Nat) (fun ⟨a7, vy8, zy8, gy8⟩ rk => itL (Qgp p0 x1) (Qgn p2) (List.drop rk l4) a7 = some r) (fun ⟨a7, vy8, zy8, gy8⟩ => ([d] ++ zf zy8 gy8)) (fun ⟨a7, vy8, zy8, gy8⟩ W => Own W zy8 gy8 92 18 vy8 (a7.map Qb8.cs) ∧ Hdn (zy8 = 0 ∨ C.heap.size ≤ gy8) ∧ Bx W d 33 (Qae.cs (Qae.mk p2 a7 (Qah.mk 0#64 0#64)) vy8) ∧ True) (by rintro ⟨a7, vy8, zy8, gy8⟩ W ⟨F0, F1, F2, _⟩ b hb; have q0 := F0.lt; have q2 := F2.lt; replace hb : b ∈ ([d] ++ zf zy8 gy8) := hb; simp only [List.mem_cons, List.mem_append, Qc5, List.not_mem_nil, or_false, false_or, not_or, ne_eq, List.nil_append, List.cons_append, true_and, and_true, false_and, and_false, not_true_eq_false, not_false_eq_true, or_true, true_or] at hb; omega) (by rintro ⟨a7, vy8, zy8, gy8⟩ W W' ⟨F0, F1, F2, _⟩ E hs; replace hs : ∀ b ∈ ([d] ++ zf zy8 gy8), W'.heap[b]? = W.heap[b]? := hs; exact ⟨Own.hs F0 hs (fun hz => by simp [Qc5, hz]), F1, (hs _ (by simp)).trans F2, trivial⟩)) (fun _ => Qqa) (by intro b hb; simp only [List.mem_cons, List.mem_append, Qc5, List.not_mem_nil, or_false, false_or, not_or, ne_eq, List.nil_append, List.cons_append, true_and, and_true, false_and, and_false, not_true_eq_false, not_false_eq_true, or_true, true_or] at hb ⊢; omega) ⟨⟨[], (.slice none 0 0), 0, 0⟩, hm, rfl, (Qax _ 0 92 18), ⟨(.inl rfl)⟩, aY, trivial⟩ ?_ ?_ ?_
 · rintro l rk x fp aZ hl hx _ a0 hF hln hlt
   clear hm
   obtain ⟨⟨e9, j⟩, hxe, rfl⟩ := map_some hx
   have D : Kz [(1, d), (0, 0)] C aZ := Qm2 a0 (by intro k hk; simp only [Nin, and_true, List.mem_cons, List.mem_append, Qc5, List.not_mem_nil, or_false, false_or, not_or, ne_eq, List.nil_append, List.cons_append, true_and, and_true, false_and, and_false, not_true_eq_false, not_false_eq_true, or_true, true_or] at hk ⊢; omega)
   refine qs 1 rfl<|qm rfl<|Qa1<|qg 1 rfl<|qm rfl<|Qa9 ?_
   refine ⟨rfl, (Gr.refl _), ?_⟩
   rintro J K ⟨⟨a7, vy8, zy8, gy8⟩, hm, rfl, n, i, o, -⟩
   have bN := K.size
   have O := n.lth
   have bz := o.lt
   replace hm := Qzn hm hxe
   generalize hnx1 : itL (Qgp p0 x1) (Qgn p2) (List.drop (rk + 1) l4) = a1 at hm
   unfold Qgp at hm
   try dsimp only at hm
   refine Qan<|qs 5 rfl<|qm rfl<|qm rfl<|qv rfl (Qas (cs := Qb8.cs (Qb8.mk e9 j k0)) Xty rfl (by kernel_rfl))<|qe rfl (Qa8 (cs := Qb8.cs (Qb8.mk 0 0 k0)) Xiz rfl) ?_
   rintro _ bO ⟨V, rfl, a2, ao, u⟩
   refine qe rfl (Qaj Quq rfl rfl rfl ao rfl rfl) ?_
   rintro _ a3 ⟨F, y⟩
   refine Qa1 ?_
   refine qj (β := W2) (rg 38 16) (fun z => []) (fun z wr => (Qhy a7 a1 e9 j z = some r) ∧ Bx wr V 92 (Qb8.cs (Qb8.mk e9 j z)) ∧ Kz [(1, V)] a3 wr) ?_ ?_
   · refine qs 2 rfl<|qm rfl<|qv rfl (Qeh (a := j) (b := 0) rfl rfl)<|Qa1<|Qam rfl (fun c3 => ?_) (fun c3 => ?_)
     · replace hm := iT c3 hm
       refine qg 8 rfl ?_
       have a4 := ((((aX.kz D).md K).gr u).md y)
       refine qv rfl (Qa4 Qcf rfl a4 rfl) ?_
       have a5 := ((((an.kz D).md K).gr u).md y)
       refine qv rfl (Qa4 Qak rfl a5 rfl)<|qv rfl (Qa0 Xcj rfl)<|qv rfl (Qa2 (v := .int .i64 e9) Qaw rfl F rfl)<|qv rfl (Qas (cs := Qaf.cs (Qaf.mk e9 0)) Xd1 rfl rfl) ?_
       obtain ⟨X, ap, hm⟩ := bnd hm
       refine qe rfl (eC Xmm rfl (Qpi ap)) ?_
       rintro _ bP ⟨rfl, aq⟩
       refine qv rfl (Qa0 Qz6 rfl) ?_
       have a6 := (F.gr aq)
       refine qe rfl (Qvz (cs' := Qb8.cs (Qb8.mk e9 j X)) (vs := kb X) (Qak).siz rfl rfl rfl rfl rfl a6 rfl rfl) ?_
       rintro _ bQ ⟨ar, a8⟩
       refine Qa9 ?_
       exact ⟨rfl, X, sbq, hm, ar, ((Kz.gr (Kz.refl _ _) aq).md a8)⟩
     replace hm := iF c3 hm
     refine qg 8 rfl ?_
     have a9 := ((((an.kz D).md K).gr u).md y)
     refine qv rfl (Qa4 Qak rfl a9 rfl)<|qm rfl ?_
     obtain ⟨bR, au, hm⟩ := bnd hm
     refine qe rfl (eC Xha rfl (Qmv au)) ?_
     rintro _ bS ⟨rfl, av⟩
     refine qm rfl<|qm rfl ?_
     obtain ⟨Y, aw, hm⟩ := bnd hm
     refine qe rfl (eC Xgn rfl (Qmz aw)) ?_
     rintro _ bT ⟨rfl, ax⟩
     refine qv rfl (Qa0 Qz6 rfl) ?_
     have ba := ((F.gr av).gr ax)
     refine qe rfl (Qvz (cs' := Qb8.cs (Qb8.mk e9 j Y)) (vs := kb Y) (Qak).siz rfl rfl rfl rfl rfl ba rfl rfl) ?_
     rintro _ bU ⟨ay, bb⟩
     refine Qa9 ?_
     exact ⟨rfl, Y, sbq, hm, ay, (((Kz.gr (Kz.refl _ _) av).gr ax).md bb)⟩
   clear hm; rintro z bV ⟨hm, p, Z⟩
   have bA := p.lt
   unfold Qhy at hm
   refine qg 7 rfl<|qv rfl (Qa0 Qtw rfl) ?_
   have az := (((o.gr u).md y).kz Z)
   refine qv rfl (Qa2 (v := vy8) Qvg rfl az rfl)<|qv rfl (Qa4 Quq rfl p rfl)<|qe rfl (Qdk [(Qb8.mk e9 j z)] Qb8.cs Xk7 rfl rfl (Qjr rfl) rfl rfl rfl) ?_
   rintro bB bW ⟨bC, bc, aA, L⟩
   have bX := L.size
   have bd := ((((n.gr u).md y (Qau O)).kz Z (tk1 (Qau (b := V) O))).gr L)
   obtain ⟨aB, aC, hm⟩ := bnd hm
   refine qe rfl (Qk1 (l := a7) (m := [(Qb8.mk e9 j z)]) (c := Qb8.cs) Xlu rfl rfl bd (Own.rd aA) aC (by decide)) ?_
   rintro P bY ⟨Q, R, S, T, bD, G⟩
   refine qv rfl (Qa0 Qtw rfl) ?_
   have be := ((az.gr L).ka T (tk1 (Qd7 (b := d) i)))
   refine qe rfl (Qe9 (cs' := Qae.cs (Qae.mk p2 aB (Qah.mk 0#64 0#64)) P) (Qvg).siz rfl rfl (Own.oneB S) be rfl rfl) ?_
   rintro _ aD ⟨aE, aF⟩
   refine Qa9<|Qay ?_
   have bf := (S.md aF (Qvp G (Qd7 i)))
   have K_49 : Kz [(1, d), (zy8, gy8)] J aD := ((((((Kz.gr (Kz.refl _ _) u).md y).kz Z).gr L).ka T (tk1 (tk0 : zy8 = 0 ∨ (gy8 = gy8 ∧ zy8 ≠ 0) ∨ J.heap.size ≤ gy8))).md aF)
   have Kq49 : Kp ([d] ++ zf zy8 gy8) J aD := Qsx K_49 (by intro k hk; simp only [Nin, and_true, List.mem_cons, List.mem_append, Qc5, List.not_mem_nil, or_false, false_or, not_or, ne_eq, List.nil_append, List.cons_append, true_and, and_true, false_and, and_false, not_true_eq_false, not_false_eq_true, or_true, true_or] at hk ⊢; omega)
   subst hnx1
   exact ⟨Kq49, ([d] ++ zf Q R), (by intro c hc; have := (Qmj (A := (fun x => (x = gy8 ∧ zy8 ≠ 0) ∨ J.heap.size ≤ x)) G tk0); simp only [List.mem_cons, List.mem_append, Qc5, List.not_mem_nil, or_false, false_or, not_or, ne_eq, List.nil_append, List.cons_append, true_and, and_true, false_and, and_false, not_true_eq_false, not_false_eq_true, or_true, true_or] at hc ⊢; omega), ⟨⟨aB, P, Q, R⟩, hm, rfl, bf, ⟨(Qmj (A := (fun x => C.heap.size ≤ x)) G (Qbs (A := (fun x => C.heap.size ≤ x)) i))⟩, aE, trivial⟩⟩
 · clear hm; rintro H fp bg bh aa aG ⟨⟨a7, vy8, zy8, gy8⟩, hm, rfl, q, s, M, -⟩ bi
   replace hm := Qws hm
   have U : Kz [(1, d), (0, 0)] C bg := Qm2 bi (by intro k hk; simp only [Nin, and_true, List.mem_cons, List.mem_append, Qc5, List.not_mem_nil, or_false, false_or, not_or, ne_eq, List.nil_append, List.cons_append, true_and, and_true, false_and, and_false, not_true_eq_false, not_false_eq_true, or_true, true_or] at hk ⊢; omega)
   simp only [List.mem_cons, List.mem_append, Qc5, List.not_mem_nil, or_false, false_or, not_or, ne_eq, List.nil_append, List.cons_append, true_and, and_true, false_and, and_false, not_true_eq_false, not_false_eq_true, or_true, true_or, not_and] at aG
   unfold Qgn at hm
   try dsimp only at hm
   refine Qay<|Qaz<|qs 3 rfl<|qv rfl (Qa4 Qeg rfl M rfl) ?_
   have bj := (aW.kz U)
   refine qe rfl (Qaj Qeg rfl rfl (Qae.cs_ones _ _ (Own.oneB q)) bj rfl rfl) ?_
   rintro _ aH ⟨aI, ab⟩
   refine qm rfl<|Qa1<|Qag ?_
   have DL69 := (Df.md aa ab)
   have ac := Md.put (w := aH) H (.deferred none)
   have bk := (aI.md ac)
   have bl := ((q.md ab (Qd7 s)).md ac)
   have bm : Gr w (aH.putObj H (.deferred none)) := (((aV.kz U).md ab).md ac)
   cases hm
   refine ⟨_, _, ⟨H, rfl, DL69, rfl⟩, Qbk rfl (Qap Qeg rfl bk rfl) (Qab rfl), ?_⟩
   exact ⟨vy8, zy8, gy8, rfl, bl, ⟨(Qbs (A := (fun x => w.heap.size ≤ x)) s)⟩, bm⟩
 rintro _ _ _ _ _ _ _ _ _ h _
 exact h.elim
theorem Qx2 {p0 p1 bp1 r} (hm : Qn7 p0 p1 = some r) {w : World} (hbp1 : Bx w bp1 175 (Qa6.cs p1)) :
    Calls Tryz.prog 123 [.agg (Qcc.cs p0).toArray, .pointer (some ⟨bp1, 0, none⟩)].toArray w fun e w' => ∃ v, e = .returned v ∧ (v = .bool r ∧ Gr w w') := by
 unfold Qn7 at hm
 refine Qa5 9 Tryz.func123 rfl rfl rfl<|qs 2 rfl<|qe rfl (Qaq (cs := Qcc.cs p0) rfl rfl) ?_
 rintro _ w1 ⟨b1, rfl, c, a, G1⟩
 refine qm rfl<|qd 6 rfl ?_
 have B4 := (hbp1.gr G1)
 refine qv rfl (Qa4 Qcf rfl B4 rfl)<|qv rfl (Qa0 Qnk rfl)<|qv rfl (Qb6 (vs := Qaf.cs p0.Subset) Qjd rfl a rfl rfl) ?_
 obtain ⟨x1, b, hm⟩ := bnd hm
 refine qe rfl (eC Xih rfl (Qj8 b)) ?_
 rintro _ w2 ⟨rfl, G2⟩
 refine qv rfl (Qci rfl)<|qm rfl<|Qa1<|Qag ?_
 have X6 := (((Gr.refl w).trans G1).trans G2)
 cases hm
 refine ⟨_, _, rfl, Qb1 rfl (Qab rfl), ?_⟩
 exact ⟨rfl, X6⟩
theorem Qiz {p0 d vp0 zp0 gp0 op0 bp1_0 r} (hm : Qct p0 d = some r) {w : World} (g : Rd w zp0 gp0 op0 18 vp0 (p0.map Qcc.cs)) (hbp1_0 : Bx w bp1_0 175 (Qa6.cs d)) :
    Calls Tryz.prog 200 [vp0, .func (.func 123) [].toArray [.pointer (some ⟨bp1_0, 0, none⟩)].toArray].toArray w fun e w' => ∃ v, e = .returned v ∧ (v = .int .i64 r ∧ Gr w w') := by
 unfold Qct at hm
 refine Qa5 19 Tryz.func200 rfl rfl rfl<|qs 1 rfl<|qm rfl<|Qa1<|Qa3<|Qa3 ?_
 refine qg 3 rfl<|qm rfl<|qv rfl (Qbi (l := p0) (c := Qcc.cs) Tryz.underlying45 rfl g)<|qm rfl<|Qa1<|Qan<|Qbj (α := Nat × Int) ([4, 5] ++ rg 8 11) (fun ⟨n1, a2⟩ => [(4, .int .i64 0), (8, .int .i64 a2)]) (fun ⟨n1, a2⟩ wr => (Qc3 (Qb9 p0 d) n1 a2 = some r) ∧ Kz [] w wr) (fun ⟨n1, a2⟩ => n1) ⟨Qcw, 0⟩ ?_ ?_ ?_
 · exact sbq
 · exact ⟨hm, Kz.refl _ _⟩
 clear hm; rintro ⟨n1, a2⟩ w1 ⟨hm, K1⟩
 have hb := Qbv hm; clear hm; obtain ⟨n1, rfl, hm⟩ := hb
 generalize f : Qc3 (Qb9 p0 d) n1 = m at hm
 unfold Qb9 at hm
 try dsimp only at hm
 refine qs 1 rfl<|qv rfl (Qcd (a := a2) (b := (p0.length : Int)) rfl rfl)<|Qa1<|Qa3<|cnF rfl (fun c1 => ?_) (fun c1 => ?_)
 · replace hm := iF c1 hm
   refine Qbp<|Qb4<|Qb4<|Qbq<|Qaz<|qs 1 rfl ?_
   refine qm rfl<|Qa1<|Qag ?_
   have X9 := ((Gr.refl w).kz K1)
   cases hm
   refine ⟨_, _, rfl, Qb1 rfl (Qab rfl), ?_⟩
   exact ⟨rfl, X9⟩
 replace hm := iT c1 hm
 refine qu<|Qa3<|Qan<|qs 2 rfl<|qm rfl ?_
 refine qm rfl<|qd 6 rfl<|qm rfl<|qm rfl<|qm rfl ?_
 obtain ⟨y3, h, hm⟩ := bnd hm
 have B4 := (g.kz K1)
 refine qv rfl (Qf7 (i := a2) Tryz.underlying45 (Qia).siz rfl B4 rfl h)<|qv rfl (Qhs Qia rfl B4 h (by first | rfl | omega)) ?_
 have B5 := (hbp1_0.kz K1)
 obtain ⟨x4, j, hm⟩ := bnd hm
 refine qe rfl (Qcy Xsq rfl rfl (Qx2 j B5)) ?_
 rintro _ w2 ⟨rfl, G2⟩
 refine Qa1<|Qam rfl (fun c2 => ?_) (fun c2 => ?_)
 · replace hm := Qc8 c2 hm
   refine qs 2 rfl<|qm rfl<|qm rfl<|Qa1<|Qag<|Qbo ?_
   refine Qb2<|Qb2<|Qbo<|Qb2 ?_
   have X7 := (((Gr.refl w).kz K1).trans G2)
   cases hm
   refine ⟨_, _, rfl, Qb1 rfl (Qab rfl), ?_⟩
   exact ⟨rfl, X7⟩
 replace hm := Qc7 c2 hm
 refine Qc4<|Qay<|Qaz<|qg 2 rfl<|qv rfl (Qce (k := .i64) (a := a2) (b := 1) rfl rfl)<|qm rfl<|Qa9 ?_
 have K_8 : Kz [] w w2 := (K1.gr G2)
 subst f
 exact ⟨rfl, ⟨n1, w64 (a2 + 1)⟩, sbq, ⟨hm, K_8⟩, Nat.lt_succ_self _⟩
theorem Qic {p0 c vp0 zp0 gp0 op0 bp1_0 r} (hm : Qbw p0 c = some r) {w : World} (d : Rd w zp0 gp0 op0 18 vp0 (p0.map Qcc.cs)) (hbp1_0 : Bx w bp1_0 175 (Qa6.cs c)) :
    Calls Tryz.prog 125 [vp0, .func (.func 123) [].toArray [.pointer (some ⟨bp1_0, 0, none⟩)].toArray].toArray w fun e w' => ∃ v, e = .returned v ∧ (v = .bool r ∧ Gr w w') := by
 unfold Qbw at hm
 refine Qa5 9 Tryz.func125 rfl rfl rfl<|qs 1 rfl<|qm rfl<|qd 5 rfl ?_
 refine qm rfl<|qm rfl ?_
 obtain ⟨x1, f, hm⟩ := bnd hm
 refine qe rfl (eC Xm7 rfl (Qiz f d hbp1_0)) ?_
 rintro _ w1 ⟨rfl, G1⟩
 refine qv rfl (Qee (a := x1) (b := 0) rfl rfl)<|qm rfl<|Qa1<|Qag ?_
 have X4 := ((Gr.refl w).trans G1)
 cases hm
 refine ⟨_, _, rfl, Qb1 rfl (Qab rfl), ?_⟩
 exact ⟨rfl, X4⟩
theorem Qsy {p0 p1 p2 r} (hm : Qel p0 p1 p2 = some r) {w : World} :
    Calls Tryz.prog 201 [.agg (Qa6.cs p0).toArray, .agg (Qb8.cs p1).toArray, .agg (Qaf.cs p2).toArray].toArray w fun e w' => ∃ v, e = .returned v ∧ (v = .bool r ∧ Gr w w') := by
 unfold Qel at hm
 refine Qa5 38 Tryz.func201 rfl rfl rfl<|qs 4 rfl<|qe rfl (Qaq (cs := Qa6.cs p0) rfl rfl) ?_
 rintro _ w1 ⟨b1, rfl, t, f, G1⟩
 refine qe rfl (Qaq (cs := Qb8.cs p1) rfl rfl) ?_
 rintro _ w2 ⟨b2, rfl, u, g, G2⟩
 refine qe rfl (Qaq (cs := Qaf.cs p2) rfl rfl) ?_
 rintro _ w3 ⟨b3, rfl, x, c, G3⟩
 refine qm rfl<|Qa1<|Qa3<|qs 5 rfl<|qv rfl (Qa0 Xcj rfl) ?_
 have B7 := (g.gr G3)
 refine qv rfl (Qa2 (v := .int .i64 p1.Node) Qaw rfl B7 rfl)<|qv rfl (Qa0 Qpd rfl)<|qv rfl (Qa2 (v := .int .i64 p2.Node) Qaw rfl c rfl)<|qv rfl (Qc2 (a := p1.Node) (b := p2.Node) rfl rfl)<|Qa1<|Qam rfl (fun c1 => ?_) (fun c1 => ?_)
 · replace hm := iT c1 hm
   refine qs 1 rfl<|qm rfl<|qb ?_
   have X8 := ((((Gr.refl w).trans G1).trans G2).trans G3)
   cases hm
   refine ⟨_, _, rfl, Qb1 rfl (Qab rfl), ?_⟩
   exact ⟨rfl, X8⟩
 replace hm := iF c1 hm
 refine qu<|Qa3 ?_
 have X9 := ((((Gr.refl w).trans G1).trans G2).trans G3)
 refine qj (β := Bool) (rg 13 8) (fun a1 => [(20, .bool a1)]) (fun a1 wr => (Qcp p1 p2 a1 = some r) ∧ Kz [] w3 wr) ?_ ?_
 · refine qg 8 rfl<|qv rfl (Qa0 Qlt rfl) ?_
   have h := ((f.gr G2).gr G3)
   refine qv rfl (Qa2 (v := bv p0.kind) Qcu rfl h rfl)<|qv rfl (Qj9 (p := p0.kind) (q := 1#8) rfl rfl)<|qp rfl (Qac rfl) (fun c4 => ?_) (fun c4 => ?_)
   · replace hm := iT c4 hm
     refine qk rfl<|qk rfl<|qk rfl<|qm rfl<|Qa9 ?_
     exact ⟨rfl, true, sbq, hm, kz0⟩
   replace hm := iF c4 hm
   refine qv rfl (Qa0 Qk7 rfl)<|qv rfl (Qa2 (v := .int .i64 p2.Minus) Qaw rfl c rfl)<|qv rfl (Qeh (a := p2.Minus) (b := 0) rfl rfl)<|qm rfl<|Qa9 ?_
   exact ⟨rfl, (decide (p2.Minus = 0)), sbq, hm, kz0⟩
 clear hm; rintro a1 w4 ⟨hm, K4⟩
 unfold Qcp at hm
 refine Qam rfl (fun c2 => ?_) (fun c2 => ?_)
 · replace hm := Qc8 c2 hm
   refine qs 6 rfl<|qv rfl (Qa0 Xbb rfl) ?_
   have i := (B7.kz K4)
   refine qv rfl (Qa2 (v := .int .i64 p1.Minus) Qaw rfl i rfl)<|qv rfl (Qa0 Qk7 rfl) ?_
   have j := (c.kz K4)
   refine qv rfl (Qa2 (v := .int .i64 p2.Minus) Qaw rfl j rfl)<|qv rfl (Qeh (a := p1.Minus) (b := p2.Minus) rfl rfl)<|qm rfl<|qb ?_
   have k := (X9.kz K4)
   cases hm
   refine ⟨_, _, rfl, Qb1 rfl (Qab rfl), ?_⟩
   exact ⟨rfl, k⟩
 replace hm := Qc7 c2 hm
 refine qu<|qs 3 rfl<|qv rfl (Qa0 Xbb rfl) ?_
 have d := (B7.kz K4)
 refine qv rfl (Qa2 (v := .int .i64 p1.Minus) Qaw rfl d rfl)<|qm rfl<|qd 11 rfl<|qm rfl<|qv rfl (Qa0 Xcj rfl) ?_
 refine qv rfl (Qa2 (v := .int .i64 p1.Node) Qaw rfl d rfl) ?_
 obtain ⟨x2, l, hm⟩ := bnd hm
 refine qe rfl (eC Xft rfl (Qk3 l)) ?_
 rintro _ w5 ⟨rfl, G5⟩
 refine qpF rfl (Qac rfl) (fun c3 => ?_) (fun c3 => ?_)
 · replace hm := Qc7 c3 hm
   refine qk rfl<|qk rfl<|qk rfl<|qk rfl<|qm rfl<|qm rfl<|Qa1 ?_
   refine Qag ?_
   have m := ((X9.kz K4).trans G5)
   cases hm
   refine ⟨_, _, rfl, Qb1 rfl (Qab rfl), ?_⟩
   exact ⟨rfl, m⟩
 replace hm := Qc8 c3 hm
 refine qv rfl (Qa0 Qk7 rfl) ?_
 have n := ((c.kz K4).gr G5)
 refine qv rfl (Qa2 (v := .int .i64 p2.Minus) Qaw rfl n rfl)<|qm rfl ?_
 obtain ⟨x3, o, hm⟩ := bnd hm
 refine qe rfl (eC Xft rfl (Qk3 o)) ?_
 rintro _ w6 ⟨rfl, G6⟩
 refine qm rfl<|qm rfl<|Qa1<|Qag ?_
 have s := (((X9.kz K4).trans G5).trans G6)
 cases hm
 refine ⟨_, _, rfl, Qb1 rfl (Qab rfl), ?_⟩
 exact ⟨rfl, s⟩
theorem Qtx {p0 p1 p2 vp1_1 zp1_1 gp1_1 op1_1 r} (hm : Qi4 p0 p1 p2 = some r) {w : World} (f : Rd w zp1_1 gp1_1 op1_1 18 vp1_1 (p1.Labels.map Qb8.cs)) :
    Calls Tryz.prog 126 [.agg (Qa6.cs p0).toArray, .agg (Qae.cs p1 vp1_1).toArray, .agg (Qaf.cs p2).toArray].toArray w fun e w' => ∃ v, e = .returned v ∧ (v = .tuple [kv r.1, .bool r.2].toArray ∧ Gr w w') := by
 unfold Qi4 at hm
 refine Qa5 44 Tryz.func126 rfl rfl rfl<|qs 5 rfl<|qe rfl (Qaq (cs := Qa6.cs p0) rfl rfl) ?_
 rintro _ w1 ⟨b1, rfl, Y, m, G1⟩
 have ae := m.lt
 refine qe rfl (Qaq (cs := Qae.cs p1 vp1_1) rfl rfl) ?_
 rintro _ w2 ⟨b2, rfl, Z, n, G2⟩
 have af := n.lt
 refine qe rfl (Qaq (cs := Qaf.cs p2) rfl rfl) ?_
 rintro _ w3 ⟨b3, rfl, aa, o, G3⟩
 have ag := o.lt
 refine qe rfl (Qa8 (cs := kb k0) Qeo rfl) ?_
 rintro _ w4 ⟨b4, rfl, ab, d, G4⟩
 have ah := d.lt
 refine qm rfl<|Qa1<|Qa3<|qs 4 rfl<|qv rfl (Qa0 Qtw rfl) ?_
 have Y1 := Gr.trans G3 G4
 have G := (n.gr Y1)
 refine qv rfl (Qa2 (v := vp1_1) Qvg rfl G rfl) ?_
 have s := (((f.gr G1).gr G2).gr Y1)
 refine qv rfl (Qbi (l := p1.Labels) (c := Qb8.cs) Tryz.underlying29 rfl s)<|qm rfl<|Qa1<|Qan ?_
 have t := ((((Gr.refl w).trans G1).trans G2).trans Y1)
 refine Qbj (α := Nat × Int) ([7, 9] ++ rg 13 30) (fun ⟨n1, a2⟩ => [(7, .bool false), (13, .int .i64 a2)]) (fun ⟨n1, a2⟩ wr => (Qc3 (Qcl p0 p1 p2) n1 a2 = some r) ∧ Kz [] w4 wr) (fun ⟨n1, a2⟩ => n1) ⟨Qcw, 0⟩ ?_ ?_ ?_
 · exact sbq
 · exact ⟨hm, Kz.refl _ _⟩
 clear hm; rintro ⟨n1, a2⟩ w5 ⟨hm, K5⟩
 have ai := K5.size
 have hb := Qbv hm; clear hm; obtain ⟨n1, rfl, hm⟩ := hb
 generalize g : Qc3 (Qcl p0 p1 p2) n1 = ac at hm
 unfold Qcl at hm
 try dsimp only at hm
 refine qs 1 rfl<|qv rfl (Qcd (a := a2) (b := (p1.Labels.length : Int)) rfl rfl)<|Qa1<|Qa3<|cnF rfl (fun c1 => ?_) (fun c1 => ?_)
 · replace hm := iF c1 hm
   refine Qbp<|Qb4<|Qb4<|Qbq<|Qaz<|qs 3 rfl ?_
   refine qv rfl (Qe8 Qpx) ?_
   have H := (d.kz K5)
   refine qe rfl (Qaj Qak rfl rfl rfl H rfl rfl) ?_
   rintro _ aj ⟨u, I⟩
   refine qm rfl<|Qa1<|Qag ?_
   have J := ((t.kz K5).md I)
   cases hm
   refine ⟨_, _, rfl, Qbk rfl (Qap Qak rfl u rfl) (Qab rfl), ?_⟩
   exact ⟨rfl, J⟩
 replace hm := iT c1 hm
 refine qu<|Qa3<|Qan<|qs 4 rfl ?_
 obtain ⟨y3, x, hm⟩ := bnd hm
 have y := (s.kz K5)
 refine qv rfl (Qf7 (i := a2) Tryz.underlying29 (Quq).siz rfl y rfl x)<|qv rfl (Qhs Quq rfl y x (by first | rfl | omega))<|qe rfl (Qa8 (cs := Qb8.cs (Qb8.mk 0 0 k0)) Xiz rfl) ?_
 rintro _ w6 ⟨b6, rfl, ad, K, G6⟩
 refine qe rfl (Qaj Quq rfl rfl rfl K rfl rfl) ?_
 rintro _ w7 ⟨h, M7⟩
 refine Qa1<|Qa3<|Qan<|qs 6 rfl ?_
 have z := (((((m.gr G2).gr Y1).kz K5).gr G6).md M7)
 refine qv rfl (Qa4 Qcf rfl z rfl)<|qv rfl (Qa4 Quq rfl h rfl) ?_
 have j := ((((o.gr G4).kz K5).gr G6).md M7)
 refine qv rfl (Qa4 Qjd rfl j rfl) ?_
 obtain ⟨x4, L, hm⟩ := bnd hm
 refine qe rfl (eC Xrn rfl (Qsy L)) ?_
 rintro _ w8 ⟨rfl, G8⟩
 refine qv rfl (Qci rfl)<|qm rfl<|Qa1<|Qam rfl (fun c2 => ?_) (fun c2 => ?_)
 · replace hm := Qc8 c2 hm
   refine Qbp<|Xic rfl<|Qb4<|Qbq<|Qaz<|qg 2 rfl<|qv rfl (Qce (k := .i64) (a := a2) (b := 1) rfl rfl) ?_
   refine qm rfl<|Qa9 ?_
   have K_21 : Kz [] w4 w8 := (((K5.gr G6).md M7).gr G8)
   subst g
   exact ⟨rfl, ⟨n1, w64 (a2 + 1)⟩, sbq, ⟨hm, K_21⟩, Nat.lt_succ_self _⟩
 replace hm := Qc7 c2 hm
 have A := ((((t.kz K5).trans G6).md M7).trans G8)
 refine qj (β := Bool) (rg 23 9) (fun a5 => [(23, .bool a5)]) (fun a5 wr => (Qej p2 y3 a5 = some r) ∧ Kz [] w8 wr) ?_ ?_
 · refine qg 9 rfl<|qv rfl (Qa0 Qlt rfl) ?_
   have M := (z.gr G8)
   refine qv rfl (Qa2 (v := bv p0.kind) Qcu rfl M rfl)<|qv rfl (Qj9 (p := p0.kind) (q := 1#8) rfl rfl)<|qp rfl (Qac rfl) (fun c4 => ?_) (fun c4 => ?_)
   · replace hm := iT c4 hm
     refine qk rfl<|qk rfl<|qk rfl<|qm rfl<|qm rfl<|Qa9 ?_
     exact ⟨rfl, true, sbq, hm, kz0⟩
   replace hm := iF c4 hm
   refine qv rfl (Qa0 Qk7 rfl) ?_
   have N := (j.gr G8)
   refine qv rfl (Qa2 (v := .int .i64 p2.Minus) Qaw rfl N rfl)<|qv rfl (Qeh (a := p2.Minus) (b := 0) rfl rfl)<|qm rfl<|qm rfl<|Qa9 ?_
   exact ⟨rfl, (decide (p2.Minus = 0)), sbq, hm, kz0⟩
 clear hm; rintro a5 w9 ⟨hm, K9⟩
 unfold Qej at hm
 refine Qam rfl (fun c3 => ?_) (fun c3 => ?_)
 · replace hm := Qc8 c3 hm
   refine qs 4 rfl<|qv rfl (Qa0 Qz6 rfl) ?_
   have O := ((h.gr G8).kz K9)
   refine qv rfl (Qb6 (vs := kb y3.Key) Qak rfl O rfl rfl) ?_
   have P := (((((d.kz K5).gr G6).md M7).gr G8).kz K9)
   refine qe rfl (Qaj Qak rfl rfl rfl P rfl rfl) ?_
   rintro _ ak ⟨B, Q⟩
   refine qm rfl<|Qa1<|Qag<|Qbo<|Qb2<|Qbo<|Qb2 ?_
   refine Qb2<|Qbo<|Qb2 ?_
   have R := ((A.kz K9).md Q)
   cases hm
   refine ⟨_, _, rfl, Qbk rfl (Qap Qak rfl B rfl) (Qab rfl), ?_⟩
   exact ⟨rfl, R⟩
 replace hm := Qc7 c3 hm
 refine Qc4<|Qay<|Qaz<|qs 10 rfl<|qv rfl (Qa0 Qz6 rfl) ?_
 have C := ((h.gr G8).kz K9)
 refine qv rfl (Qb6 (vs := kb y3.Key) Qak rfl C rfl rfl)<|qv rfl (Qa0 Xbb rfl)<|qv rfl (Qa2 (v := .int .i64 y3.Minus) Qaw rfl C rfl)<|qv rfl (Qa0 Qk7 rfl) ?_
 have S := ((j.gr G8).kz K9)
 refine qv rfl (Qa2 (v := .int .i64 p2.Minus) Qaw rfl S rfl) ?_
 obtain ⟨x6, T, hm⟩ := bnd hm
 refine qe rfl (eC Xgn rfl (Qmz T)) ?_
 rintro _ al ⟨rfl, D⟩
 obtain ⟨x7, U, hm⟩ := bnd hm
 refine qe rfl (eC Xm0 rfl (Qrd U)) ?_
 rintro _ am ⟨rfl, E⟩
 have V := (((((((d.kz K5).gr G6).md M7).gr G8).kz K9).gr D).gr E)
 refine qe rfl (Qaj Qak rfl rfl rfl V rfl rfl) ?_
 rintro _ an ⟨F, W⟩
 refine qm rfl<|Qa1<|Qag<|Qbo<|Qb2<|Qb2<|Qbo ?_
 refine Qb2 ?_
 have X := ((((A.kz K9).trans D).trans E).md W)
 cases hm
 refine ⟨_, _, rfl, Qbk rfl (Qap Qak rfl F rfl) (Qab rfl), ?_⟩
 exact ⟨rfl, X⟩
theorem Xa8 {p0 p1 p2 vp1_1 zp1_1 gp1_1 op1_1 vp2_0 zp2_0 gp2_0 op2_0 vp2_2 zp2_2 gp2_2 op2_2 r} (hm : Qmc p0 p1 p2 = some r) {w : World} (p : Rd w zp1_1 gp1_1 op1_1 18 vp1_1 (p1.Labels.map Qb8.cs)) (m : Rd w zp2_0 gp2_0 op2_0 18 vp2_0 (p2.Items.map Qcc.cs)) (q : Rd w zp2_2 gp2_2 op2_2 2 vp2_2 (p2.Points.map Qah.cs)) :
    Calls Tryz.prog 53 [.agg (Qa7.cs p0).toArray, .agg (Qae.cs p1 vp1_1).toArray, .agg (Qaa.cs p2 vp2_0 vp2_2).toArray].toArray w fun e w' => ∃ v, e = .returned v ∧ (v = .tuple [kv r.1, .int .i64 r.2].toArray ∧ Gr w w') := by
 have G := p.lth
 have H := m.lth
 have ac := q.lth
 unfold Qmc at hm
 refine Qa5 82 Tryz.func53 rfl rfl rfl<|qs 5 rfl<|qe rfl (Qaq (cs := Qa7.cs p0) rfl rfl) ?_
 rintro _ w1 ⟨b1, rfl, aO, I, G1⟩
 have aZ := I.lt
 refine qe rfl (Qaq (cs := Qae.cs p1 vp1_1) rfl rfl) ?_
 rintro _ w2 ⟨b2, rfl, aP, J, G2⟩
 have a0 := J.lt
 refine qe rfl (Qaq (cs := Qaa.cs p2 vp2_0 vp2_2) rfl rfl) ?_
 rintro _ w3 ⟨b3, rfl, aQ, E, G3⟩
 have a1 := E.lt
 refine qe rfl (Qa8 (cs := kb k0) Qeo rfl) ?_
 rintro _ w4 ⟨b4, rfl, aR, s, G4⟩
 have aS := s.lt
 refine qm rfl<|qd 8 rfl ?_
 have Y1 := Gr.trans (Gr.trans G2 G3) G4
 have ad := (I.gr Y1)
 refine qv rfl (Qa4 Qcn rfl ad rfl) ?_
 obtain ⟨x1, ae, hm⟩ := bnd hm
 refine qe rfl (eC Xeb rfl (Qlw ae (Own.rd (Qax _ 0 131 2)))) ?_
 rintro _ w5 ⟨rfl, G5⟩
 have a3 := G5.size
 refine qm rfl<|qm rfl<|qm rfl<|qe rfl (Qa8 (cs := Qa6.cs (Qa6.mk 0#8 0 0)) Qr8 rfl) ?_
 rintro _ w6 ⟨b6, rfl, aT, K, G6⟩
 have aU := K.lt
 refine qe rfl (Qaj Qcf rfl rfl rfl K rfl rfl) ?_
 rintro _ w7 ⟨L, M7⟩
 have a5 := M7.size
 refine qm rfl<|Qa1<|Qa3<|qs 2 rfl<|qm rfl<|qv rfl (Qc2 (a := x1.2) (b := 0) rfl rfl) ?_
 refine Qa1<|Qam rfl (fun c1 => ?_) (fun c1 => ?_)
 · replace hm := iT c1 hm
   refine qs 4 rfl<|qv rfl (Qe8 Qpx)<|qm rfl ?_
   have Y2 := Gr.trans G5 G6
   have af := ((s.gr Y2).md M7)
   refine qe rfl (Qaj Qak rfl rfl rfl af rfl rfl) ?_
   rintro _ w8 ⟨ag, M8⟩
   refine qm rfl<|qb ?_
   have Y3 := Gr.trans (Gr.trans G1 Y1) Y2
   have ah := ((((Gr.refl w).trans Y3).md M7).md M8)
   cases hm
   refine ⟨_, _, rfl, Qbk rfl (Qap Qak rfl ag rfl) (Qab rfl), ?_⟩
   exact ⟨rfl, ah⟩
 replace hm := iF c1 hm
 refine qu<|qs 2 rfl<|qv rfl (Qfb rfl rfl)<|qm rfl<|Qa1 ?_
 refine Qa3 ?_
 have Y4 := Gr.trans (Gr.trans (Gr.trans G1 Y1) G5) G6
 have M := (((Gr.refl w).trans Y4).md M7)
 refine qj (β := Bool) (rg 26 27) (fun a2 => [(52, .bool a2)]) (fun a2 wr => (Qg1 p1 p2 x1 a2 = some r) ∧ Kz [] w7 wr) ?_ ?_
 · refine qg 27 rfl<|qv rfl (Qa0 Qhu rfl) ?_
   have Y5 := Gr.trans (Gr.trans G4 G5) G6
   have t := ((E.gr Y5).md M7)
   refine qv rfl (Qa2 (v := vp2_0) Qkf rfl t rfl) ?_
   have N := ((m.gr Y4).md M7 (Qau H))
   refine qv rfl (Qbi (l := p2.Items) (c := Qcc.cs) Tryz.underlying45 rfl N)<|qv rfl (Qey (a := (p2.Items.length : Int)) (b := 64) rfl rfl)<|qp rfl (Qac rfl) (fun c6 => ?_) (fun c6 => ?_)
   · replace hm := iT c6 hm
     refine qk rfl<|qk rfl<|qk rfl<|qm rfl<|qm rfl<|qk rfl<|qk rfl ?_
     refine qk rfl<|qk rfl<|qm rfl<|qm rfl<|qk rfl<|qk rfl<|qk rfl ?_
     refine qk rfl<|qm rfl<|qm rfl<|qk rfl<|qk rfl<|qk rfl<|qk rfl ?_
     refine qm rfl<|Qa9 ?_
     exact ⟨rfl, true, sbq, hm, kz0⟩
   replace hm := iF c6 hm
   refine qv rfl (Qa0 Qou rfl)<|qv rfl (Qa2 (v := wv p2.Base) Qb5 rfl t rfl)<|qv rfl (Qz1 (c := p2.Base) (d := 0#64) rfl rfl)<|qm rfl<|qp rfl (Qac rfl) (fun c7 => ?_) (fun c7 => ?_)
   · replace hm := iT c7 hm
     refine qk rfl<|qk rfl<|qk rfl<|qk rfl<|qm rfl<|qm rfl<|qk rfl ?_
     refine qk rfl<|qk rfl<|qk rfl<|qm rfl<|qm rfl<|qk rfl<|qk rfl ?_
     refine qk rfl<|qk rfl<|qm rfl<|Qa9 ?_
     exact ⟨rfl, true, sbq, hm, kz0⟩
   replace hm := iF c7 hm
   refine qv rfl (Qa0 Qgi rfl)<|qv rfl (Qa2 (v := vp2_2) Qix rfl t rfl) ?_
   have ai := ((q.gr Y4).md M7 (Qau ac))
   refine qv rfl (Qbi (l := p2.Points) (c := Qah.cs) Tryz.underlying46 rfl ai)<|qv rfl (Qey (a := (p2.Points.length : Int)) (b := 0) rfl rfl)<|qm rfl<|qp rfl (Qac rfl) (fun c8 => ?_) (fun c8 => ?_)
   · replace hm := iT c8 hm
     refine qk rfl<|qk rfl<|qk rfl<|qk rfl<|qm rfl<|qm rfl<|qk rfl ?_
     refine qk rfl<|qk rfl<|qk rfl<|qm rfl<|Qa9 ?_
     exact ⟨rfl, true, sbq, hm, kz0⟩
   replace hm := iF c8 hm
   refine qv rfl (Qa0 Qry rfl)<|qv rfl (Qb6 (vs := kb p2.Box) Qak rfl t rfl rfl)<|qv rfl (Qe8 Qpx)<|qv rfl (Qmu (cf := kb) (a := p2.Box) (b := k0) Qqd rfl rfl rfl rfl (fun h => Qng h))<|qm rfl<|qp rfl (Qac rfl) (fun c9 => ?_) (fun c9 => ?_)
   · replace hm := iT c9 hm
     refine qk rfl<|qk rfl<|qk rfl<|qk rfl<|qm rfl<|Qa9 ?_
     exact ⟨rfl, true, sbq, hm, kz0⟩
   replace hm := iF c9 hm
   refine qv rfl (Qa0 Qhu rfl)<|qv rfl (Qa2 (v := vp2_0) Qkf rfl t rfl)<|qm rfl ?_
   obtain ⟨x7, aj, hm⟩ := bnd hm
   refine qe rfl (eC Xln rfl (Qic aj N L)) ?_
   rintro _ a6 ⟨rfl, ak⟩
   refine qm rfl<|Qa9 ?_
   exact ⟨rfl, x7, sbq, hm, (kz0.gr ak)⟩
 clear hm; rintro a2 w9 ⟨hm, K9⟩
 have a7 := K9.size
 unfold Qg1 at hm
 refine Qam rfl (fun c2 => ?_) (fun c2 => ?_)
 · replace hm := Qc8 c2 hm
   refine qs 3 rfl<|qv rfl (Qe8 Qpx) ?_
   have Y6 := Gr.trans G5 G6
   have al := (((s.gr Y6).md M7).kz K9)
   refine qe rfl (Qaj Qak rfl rfl rfl al rfl rfl) ?_
   rintro _ a8 ⟨O, am⟩
   refine qm rfl<|qb ?_
   have an := ((M.kz K9).md am)
   cases hm
   refine ⟨_, _, rfl, Qbk rfl (Qap Qak rfl O rfl) (Qab rfl), ?_⟩
   exact ⟨rfl, an⟩
 replace hm := Qc7 c2 hm
 refine qu<|Qa3<|qs 4 rfl<|qv rfl (Qa0 Qhu rfl) ?_
 have Y7 := Gr.trans (Gr.trans G4 G5) G6
 have P := (((E.gr Y7).md M7).kz K9)
 refine qv rfl (Qa2 (v := vp2_0) Qkf rfl P rfl) ?_
 have Q := (((m.gr Y4).md M7 (Qau H)).kz K9)
 refine qv rfl (Qbi (l := p2.Items) (c := Qcc.cs) Tryz.underlying45 rfl Q)<|qm rfl<|Qa1<|Qan ?_
 have R := (M.kz K9)
 have ao := (((p.gr Y4).md M7 (Qau G)).kz K9)
 refine Qbj (α := Nat × Int) ([7, 12, 13, 14, 15] ++ rg 57 24) (fun ⟨n2, a4⟩ => [(7, .int .i64 0), (57, .int .i64 a4)]) (fun ⟨n2, a4⟩ wr => (Qc3 (Qh4 p1 p2 x1) n2 a4 = some r) ∧ Kz [] w9 wr) (fun ⟨n2, a4⟩ => n2) ⟨Qcw, 0⟩ ?_ ?_ ?_
 · exact sbq
 · exact ⟨hm, Kz.refl _ _⟩
 clear hm; rintro ⟨n2, a4⟩ a9 ⟨hm, f⟩
 have ba := f.size
 have hb := Qbv hm; clear hm; obtain ⟨n2, rfl, hm⟩ := hb
 generalize u : Qc3 (Qh4 p1 p2 x1) n2 = aV at hm
 unfold Qh4 at hm
 try dsimp only at hm
 refine qs 1 rfl<|qv rfl (Qcd (a := a4) (b := (p2.Items.length : Int)) rfl rfl)<|Qa1<|Qa3<|cnF rfl (fun c3 => ?_) (fun c3 => ?_)
 · replace hm := iF c3 hm
   refine Qbp<|Qb4<|Qb4<|Qbq<|Qaz<|qs 3 rfl ?_
   refine qv rfl (Qe8 Qpx) ?_
   have Y8 := Gr.trans G5 G6
   have ap := ((((s.gr Y8).md M7).kz K9).kz f)
   refine qe rfl (Qaj Qak rfl rfl rfl ap rfl rfl) ?_
   rintro _ bb ⟨S, aq⟩
   refine qm rfl<|Qa1<|Qag ?_
   have ar := ((R.kz f).md aq)
   cases hm
   refine ⟨_, _, rfl, Qbk rfl (Qap Qak rfl S rfl) (Qab rfl), ?_⟩
   exact ⟨rfl, ar⟩
 replace hm := iT c3 hm
 refine qu<|Qa3<|Qan<|qs 4 rfl ?_
 obtain ⟨y5, T, hm⟩ := bnd hm
 have U := (Q.kz f)
 refine qv rfl (Qf7 (i := a4) Tryz.underlying45 (Qia).siz rfl U rfl T)<|qv rfl (Qhs Qia rfl U T (by first | rfl | omega))<|qe rfl (Qa8 (cs := Qcc.cs (Qcc.mk (Qaf.mk 0 0) k0)) Xdx rfl) ?_
 rintro _ bc ⟨bd, rfl, au, B, j⟩
 have aW := B.lt
 refine qe rfl (Qaj Qia rfl rfl rfl B rfl rfl) ?_
 rintro _ be ⟨C, g⟩
 have bf := g.size
 refine qd 11 rfl ?_
 have av := ((((L.kz K9).kz f).gr j).md g)
 refine qv rfl (Qa4 Qcf rfl av rfl) ?_
 have Y9 := Gr.trans G3 Y7
 have aw := ((((((J.gr Y9).md M7).kz K9).kz f).gr j).md g)
 refine qv rfl (Qa4 Qeg rfl aw rfl)<|qv rfl (Qa0 Qnk rfl)<|qv rfl (Qb6 (vs := Qaf.cs y5.Subset) Qjd rfl C rfl rfl) ?_
 have ax := (((ao.kz f).gr j).md g (Qau G))
 obtain ⟨x6, ay, hm⟩ := bnd hm
 refine qe rfl (eC Xrb rfl (Qtx ay ax)) ?_
 rintro _ bg ⟨rfl, F⟩
 have bh := F.size
 refine qm rfl<|qm rfl<|qm rfl<|qe rfl (Qa8 (cs := kb k0) Qeo rfl) ?_
 rintro _ bi ⟨bj, rfl, az, D, V⟩
 have aX := D.lt
 refine qe rfl (Qaj Qak rfl rfl rfl D rfl rfl) ?_
 rintro _ aA ⟨W, n⟩
 have bk := n.size
 refine qm rfl<|qd 1 rfl<|qm rfl<|Qa1<|cnF rfl (fun c4 => ?_) (fun c4 => ?_)
 · replace hm := Qc7 c4 hm
   refine Qc4<|Qay<|Qaz<|qg 2 rfl<|qv rfl (Qce (k := .i64) (a := a4) (b := 1) rfl rfl)<|qm rfl<|Qa9 ?_
   have aB := Gr.trans F V
   have K_56 : Kz [] w9 aA := ((((f.gr j).md g).gr aB).md n)
   subst u
   exact ⟨rfl, ⟨n2, w64 (a4 + 1)⟩, sbq, ⟨hm, K_56⟩, Nat.lt_succ_self _⟩
 replace hm := Qc8 c4 hm
 refine qs 6 rfl<|qv rfl (Qa4 Qak rfl W rfl)<|qv rfl (Qa0 Xdk rfl) ?_
 have x := Gr.trans F V
 have aC := ((C.gr x).md n)
 refine qv rfl (Qb6 (vs := kb y5.Box) Qak rfl aC rfl rfl)<|qe rfl (eC Xe4 rfl (Xe7 x6.1 y5.Box _)) ?_
 rintro _ bl ⟨rfl, X⟩
 have bm := X.size
 refine qe rfl (Qa8 (cs := kb k0) Qeo rfl) ?_
 rintro _ bo ⟨bp, rfl, aD, Y, aE⟩
 refine qe rfl (Qaj Qak rfl rfl rfl Y rfl rfl) ?_
 rintro _ bq ⟨Z, z⟩
 refine Qa1<|Qa3<|dw [([])] [] (.leaf [(0,10),(2,10),(3,10),(1,0),(4,10)]) ?_
 intro aF y aY
 refine Qal ?_
 have aa := (Z.gr y)
 refine dh 0 rfl rfl (fun w hS => Qa4 Qak rfl (Bx.kp aa hS) rfl)<|dh 0 rfl rfl (fun w hS => Qa0 Qtf rfl) ?_
 have A := Gr.trans X aE
 have aG := ((((((((P.kz f).gr j).md g).gr x).md n).gr A).md z).gr y)
 refine dh 0 rfl rfl (fun w hS => Qb6 (vs := kb p2.Check) Qak rfl (Bx.kp aG hS) rfl rfl)<|qz [] rfl (eC Qpe rfl (Qes (Xet x6.1 y5.Box) (un8 53#8) (Qiy _) (Qiw _) 0#64 _)) ⟨fun _ => tk0, trivial⟩ ?_
 rintro _ aH ⟨rfl, o⟩
 refine kG o ?_
 have aI := ((Kp.refl ([]) aF).gr o)
 refine qh 0 rfl rfl aI (fun w hS => Qv9 (cf := kb) (a := drv (Xet x6.1 y5.Box) (un8 53#8) 0#64) (b := p2.Check) Qqd rfl rfl rfl rfl (fun h => Qng h))<|Qa1<|cnF rfl (fun c5 => ?_) (fun c5 => ?_)
 · replace hm := iF c5 hm
   refine Qc4<|Qay<|Qaz<|qg 2 rfl<|qv rfl (Qce (k := .i64) (a := a4) (b := 1) rfl rfl)<|qm rfl<|Qa9 ?_
   have K_55 : Kz [] w9 aH := ((((((((f.gr j).md g).gr x).md n).gr A).md z).gr y).gr o)
   subst u
   exact ⟨rfl, ⟨n2, w64 (a4 + 1)⟩, sbq, ⟨hm, K_55⟩, Nat.lt_succ_self _⟩
 replace hm := iT c5 hm
 refine qs 3 rfl ?_
 have aJ := (aa.gr o)
 refine qv rfl (Qa4 Qak rfl aJ rfl) ?_
 have aK := Gr.trans G5 G6
 have aL := ((((((((((((s.gr aK).md M7).kz K9).kz f).gr j).md g).gr x).md n).gr A).md z).gr y).gr o)
 refine qe rfl (Qaj Qak rfl rfl rfl aL rfl rfl) ?_
 rintro _ br ⟨ab, aM⟩
 refine qm rfl<|Qa1<|Qag<|Qbo<|Qb2<|Qb2<|Qbo ?_
 refine Qb2 ?_
 have aN := ((((((((((R.kz f).trans j).md g).trans x).md n).trans A).md z).trans y).trans o).md aM)
 cases hm
 refine ⟨_, _, rfl, Qbk rfl (Qap Qak rfl ab rfl) (Qab rfl), ?_⟩
 exact ⟨rfl, aN⟩
theorem Qtp {p0 p1 vp1 zp1 gp1 op1 r} (hm : Qgq p0 p1 = some r) {w : World} (m : Rd w zp1 gp1 op1 1 vp1 (p1.map ic)) :
    Calls Tryz.prog 113 [.agg (Qa6.cs p0).toArray, vp1].toArray w fun e w' => ∃ v, e = .returned v ∧ (v = .bool r ∧ Gr w w') := by
 unfold Qgq at hm
 refine Qa5 32 Tryz.func113 rfl rfl rfl<|qs 2 rfl<|qe rfl (Qaq (cs := Qa6.cs p0) rfl rfl) ?_
 rintro _ w1 ⟨b1, rfl, x, n, G1⟩
 refine qm rfl<|Qa1<|Qa3<|qs 3 rfl<|qm rfl ?_
 have B4 := (m.gr G1)
 refine qv rfl (Qbi (l := p1) (c := ic) Tryz.underlying44 rfl B4)<|qm rfl<|Qa1<|Qan ?_
 have X5 := ((Gr.refl w).trans G1)
 refine Qbj (α := Nat × Int) ([4, 5, 6] ++ rg 9 23) (fun ⟨n1, a2⟩ => [(4, .bool false), (9, .int .i64 a2)]) (fun ⟨n1, a2⟩ wr => (Qc3 (Qdm p0 p1) n1 a2 = some r) ∧ Kz [] w1 wr) (fun ⟨n1, a2⟩ => n1) ⟨Qcw, 0⟩ ?_ ?_ ?_
 · exact sbq
 · exact ⟨hm, Kz.refl _ _⟩
 clear hm; rintro ⟨n1, a2⟩ w2 ⟨hm, K2⟩
 have hb := Qbv hm; clear hm; obtain ⟨n1, rfl, hm⟩ := hb
 generalize d : Qc3 (Qdm p0 p1) n1 = f at hm
 unfold Qdm at hm
 try dsimp only at hm
 refine qs 1 rfl<|qv rfl (Qcd (a := a2) (b := (p1.length : Int)) rfl rfl)<|Qa1<|Qa3<|cnF rfl (fun c1 => ?_) (fun c1 => ?_)
 · replace hm := iF c1 hm
   refine Qbp<|Qb4<|Qb4<|Qbq<|Qaz<|qs 1 rfl ?_
   refine qm rfl<|Qa1<|Qag ?_
   have o := (X5.kz K2)
   cases hm
   refine ⟨_, _, rfl, Qb1 rfl (Qab rfl), ?_⟩
   exact ⟨rfl, o⟩
 replace hm := iT c1 hm
 refine qu<|Qa3<|Qan<|qs 5 rfl<|qm rfl ?_
 obtain ⟨y3, g, hm⟩ := bnd hm
 have B7 := (B4.kz K2)
 refine qv rfl (Qf7 (i := a2) Tryz.underlying44 (Qaw).siz rfl B7 rfl g)<|qv rfl (Qk9 (q := 0) (u := .int .i64 y3) Qaw rfl B7 g (by first | rfl | omega) rfl)<|qm rfl<|qm rfl<|Qa1 ?_
 have X8 := (X5.kz K2)
 refine qj (β := Bool) (rg 14 17) (fun a4 => [(30, .bool a4)]) (fun a4 wr => (Qef a2 f a4 = some r) ∧ Kz [] w2 wr) ?_ ?_
 · refine qg 17 rfl ?_
   have p := (n.kz K2)
   refine qv rfl (Qa4 Qcf rfl p rfl)<|qm rfl ?_
   obtain ⟨x5, s, hm⟩ := bnd hm
   refine qe rfl (eC Xmk rfl (Qlb s)) ?_
   rintro _ w4 ⟨rfl, G4⟩
   refine qv rfl (Qci rfl)<|qp rfl (Qac rfl) (fun c3 => ?_) (fun c3 => ?_)
   · replace hm := Qc8 c3 hm
     refine qk rfl<|qk rfl<|qk rfl<|qk rfl<|qk rfl<|qk rfl<|qk rfl ?_
     refine qk rfl<|qk rfl<|qk rfl<|qk rfl<|qm rfl<|Qa9 ?_
     exact ⟨rfl, true, sbq, hm, (kz0.gr G4)⟩
   replace hm := Qc7 c3 hm
   refine qm rfl<|qv rfl (Qey (a := a2) (b := 0) rfl rfl)<|qpF rfl (Qac rfl) (fun c4 => ?_) (fun c4 => ?_)
   · replace hm := iF c4 hm
     refine qk rfl<|qk rfl<|qk rfl<|qk rfl<|qk rfl<|qk rfl<|qk rfl ?_
     refine qm rfl<|qm rfl<|Qa9 ?_
     exact ⟨rfl, false, sbq, hm, (kz0.gr G4)⟩
   replace hm := iT c4 hm
   refine qm rfl<|qm rfl<|qm rfl<|qv rfl (Qi7 (k := .i64) (a := a2) (b := 1) rfl rfl) ?_
   obtain ⟨y6, h, hm⟩ := bnd hm
   have j := (B7.gr G4)
   refine qv rfl (Qf7 (i := w64 (a2 - 1)) Tryz.underlying44 (Qaw).siz rfl j rfl h)<|qv rfl (Qk9 (q := 0) (u := .int .i64 y6) Qaw rfl j h (by first | rfl | omega) rfl)<|qv rfl (Qo8 (a := y3) (b := y6) rfl rfl)<|qm rfl<|qm rfl<|Qa9 ?_
   exact ⟨rfl, (decide (y3 ≤ y6)), sbq, hm, (kz0.gr G4)⟩
 clear hm; rintro a4 w3 ⟨hm, K3⟩
 unfold Qef at hm
 refine Qam rfl (fun c2 => ?_) (fun c2 => ?_)
 · replace hm := Qc8 c2 hm
   refine qs 1 rfl<|qm rfl<|Qa1<|Qag<|Qbo<|Qb2 ?_
   refine Qb2<|Qbo<|Qb2 ?_
   have t := (X8.kz K3)
   cases hm
   refine ⟨_, _, rfl, Qb1 rfl (Qab rfl), ?_⟩
   exact ⟨rfl, t⟩
 replace hm := Qc7 c2 hm
 refine Qc4<|Qay<|Qaz<|qg 2 rfl<|qv rfl (Qce (k := .i64) (a := a2) (b := 1) rfl rfl)<|qm rfl<|Qa9 ?_
 have K_11 : Kz [] w1 w3 := (K2.kz K3)
 subst d
 exact ⟨rfl, ⟨n1, w64 (a2 + 1)⟩, sbq, ⟨hm, K_11⟩, Nat.lt_succ_self _⟩
theorem Qmg {p0 p1 p2 bp2 vp2_0 zp2_0 gp2_0 r} (hm : Qgy p0 p1 p2 = some r) {w : World} (hbp2 : Bx w bp2 107 ([vp2_0])) (a : Own w zp2_0 gp2_0 131 2 vp2_0 (p2.map Qaf.cs)) (b : Hdn (zp2_0 = 0 ∨ gp2_0 ≠ bp2)) :
    Calls Tryz.prog 115 [.int .i64 p0, .int .i64 p1, .pointer (some ⟨bp2, 0, none⟩)].toArray w fun e w' => ∃ v, e = .returned v ∧ (∃ ub0_s zb0_s gb0_s, v = .tuple #[] ∧ Own w' zb0_s gb0_s 131 2 ub0_s (r.map Qaf.cs) ∧ Hdn (zb0_s = 0 ∨ (gb0_s = gp2_0 ∧ zp2_0 ≠ 0) ∨ w.heap.size ≤ gb0_s) ∧ Bx w' bp2 107 ([ub0_s]) ∧ Kz [(zp2_0, gp2_0), (1, bp2)] w w') := by
 have d := a.lth
 have u := hbp2.lt
 unfold Qgy at hm
 refine Qa5 11 Tryz.func115 rfl rfl rfl<|qg 7 rfl<|qv rfl (Qa2 (v := vp2_0) Qyt rfl hbp2 rfl)<|qm rfl<|qm rfl<|qv rfl (Qas (cs := Qaf.cs (Qaf.mk p0 p1)) Xd1 rfl rfl)<|qe rfl (Qdk [(Qaf.mk p0 p1)] Qaf.cs Xb3 rfl rfl (Qjr rfl) rfl rfl rfl) ?_
 rintro y w1 ⟨z, t, j, G1⟩
 have z3 := G1.size
 have B5 := (a.gr G1)
 obtain ⟨l1, k, hm⟩ := bnd hm
 refine qe rfl (Qk1 (l := p2) (m := [(Qaf.mk p0 p1)]) (c := Qaf.cs) Xn2 rfl rfl B5 (Own.rd j) k (by decide)) ?_
 rintro f w2 ⟨n, p, g, h, B, i⟩
 have B7 := ((hbp2.gr G1).ka h (tk1 ((tk2 d.o b.o) : zp2_0 = 0 ∨ gp2_0 ≠ bp2)))
 refine qe rfl (Qe9 (cs' := [f]) (Qyt).siz rfl rfl (Own.oneB g) B7 rfl rfl) ?_
 rintro _ w3 ⟨q, M3⟩
 refine Qa9 ?_
 have B9 := (g.md M3 (Qvp i (tk2 d.o b.o)))
 have s := ((((Kz.refl [(zp2_0, gp2_0), (1, bp2)] w).gr G1).ka h (tk1 (tk0 : zp2_0 = 0 ∨ (gp2_0 = gp2_0 ∧ zp2_0 ≠ 0) ∨ w.heap.size ≤ gp2_0))).md M3)
 cases hm
 refine ⟨_, _, rfl, Qh6 rfl, ?_⟩
 exact ⟨f, n, p, rfl, B9, ⟨(Qmj (A := (fun x => (x = gp2_0 ∧ zp2_0 ≠ 0) ∨ w.heap.size ≤ x)) i tk0)⟩, q, s⟩
theorem Qy1 {p0 p1 vp1 zp1 gp1 op1 r} (hm : Qko p0 p1 = some r) {w : World} (aO : Rd w zp1 gp1 op1 1 vp1 (p1.map ic)) :
    Calls Tryz.prog 51 [.agg (Qa7.cs p0).toArray, vp1].toArray w fun e w' => ∃ v, e = .returned v ∧ (∃ ur0_s zr0_s gr0_s, v = .tuple [ur0_s, .int .i64 r.2].toArray ∧ Own w' zr0_s gr0_s 131 2 ur0_s (r.1.map Qaf.cs) ∧ Hdn (zr0_s = 0 ∨ w.heap.size ≤ gr0_s) ∧ Gr w w') := by
 have ay := aO.lth
 unfold Qko at hm
 refine Qa5 134 Tryz.func51 rfl rfl rfl<|qs 3 rfl<|qe rfl (Qaq (cs := Qa7.cs p0) rfl rfl) ?_
 rintro _ w1 ⟨b1, rfl, cm, aP, G1⟩
 have cy := aP.lt
 refine qm rfl<|qm rfl<|qd 8 rfl<|qv rfl (Qa4 Qcn rfl aP rfl) ?_
 obtain ⟨x1, bs, hm⟩ := bnd hm
 refine qe rfl (eC Xeb rfl (Qlw bs (Own.rd (Qax _ 0 131 2)))) ?_
 rintro _ w2 ⟨rfl, G2⟩
 have z4 := G2.size
 refine qm rfl<|qm rfl<|qm rfl<|qe rfl (Qa8 (cs := Qa6.cs (Qa6.mk 0#8 0 0)) Qr8 rfl) ?_
 rintro _ w3 ⟨b3, rfl, cn, aQ, G3⟩
 have cz := aQ.lt
 refine qe rfl (Qaj Qcf rfl rfl rfl aQ rfl rfl) ?_
 rintro _ w4 ⟨az, M4⟩
 have z7 := M4.size
 refine qm rfl<|Qa1<|Qa3<|qs 2 rfl<|qm rfl<|qv rfl (Qc2 (a := x1.2) (b := 0) rfl rfl) ?_
 refine Qa1<|Qam rfl (fun c1 => ?_) (fun c1 => ?_)
 · replace hm := iT c1 hm
   refine qs 3 rfl<|qm rfl<|qm rfl<|qm rfl<|Qa1<|Qag ?_
   refine Qb2 ?_
   have Y1 := Gr.trans (Gr.trans G1 G2) G3
   have X8 := (((Gr.refl w).trans Y1).md M4)
   cases hm
   refine ⟨_, _, rfl, Qbk rfl (Qab rfl) (Qab rfl), ?_⟩
   exact ⟨(.slice none 0 0), 0, 0, rfl, (Qax _ 0 131 2), ⟨.inl rfl⟩, X8⟩
 replace hm := iF c1 hm
 refine qu<|Qa3<|qs 4 rfl<|qv rfl (Qa4 Qcf rfl az rfl)<|qm rfl ?_
 have Y2 := Gr.trans (Gr.trans G1 G2) G3
 have B9 := ((aO.gr Y2).md M4 (Qau ay))
 obtain ⟨x2, bu, hm⟩ := bnd hm
 refine qe rfl (eC Xr8 rfl (Qtp bu B9)) ?_
 rintro _ w5 ⟨rfl, G5⟩
 have cA := G5.size
 refine qv rfl (Qci rfl)<|Qa1<|Qam rfl (fun c2 => ?_) (fun c2 => ?_)
 · replace hm := Qc8 c2 hm
   refine qs 2 rfl<|qm rfl<|qm rfl<|Qa1<|Qag<|Qb2 ?_
   have bw := ((((Gr.refl w).trans Y2).md M4).trans G5)
   cases hm
   refine ⟨_, _, rfl, Qbk rfl (Qab rfl) (Qab rfl), ?_⟩
   exact ⟨(.slice none 0 0), 0, 0, rfl, (Qax _ 0 131 2), ⟨.inl rfl⟩, bw⟩
 replace hm := Qc7 c2 hm
 refine qu<|Qa3<|qs 3 rfl<|qm rfl ?_
 have aR := (B9.gr G5)
 refine qv rfl (Qbi (l := p1) (c := ic) Tryz.underlying44 rfl aR)<|qv rfl (Qeh (a := (p1.length : Int)) (b := 0) rfl rfl)<|Qa1<|Qam rfl (fun c3 => ?_) (fun c3 => ?_)
 · replace hm := iT c3 hm
   refine qs 4 rfl<|qv rfl (Qas (cs := Qaf.cs (Qaf.mk 1 0)) Xd1 rfl rfl)<|qe rfl (Qdk [(Qaf.mk 1 0)] Qaf.cs Xb3 rfl rfl (Qjr rfl) rfl rfl rfl) ?_
   rintro bx w6 ⟨bz, co, bA, G6⟩
   refine qm rfl<|qm rfl<|qb ?_
   have bB := (((((Gr.refl w).trans Y2).md M4).trans G5).trans G6)
   cases hm
   refine ⟨_, _, rfl, Qbk rfl (Qab rfl) (Qab rfl), ?_⟩
   exact ⟨bx, 1, bz, rfl, bA, ⟨(.inr tk0)⟩, bB⟩
 replace hm := iF c3 hm
 refine qu<|qs 2 rfl<|qe rfl (Xeo) ?_
 rintro _ w7 ⟨b7, rfl, cp, bC, G7⟩
 refine qm rfl<|Qa1<|Qa3<|qs 3 rfl<|qm rfl ?_
 have aA := (aR.gr G7)
 refine qv rfl (Qbi (l := p1) (c := ic) Tryz.underlying44 rfl aA)<|qm rfl<|Qa1<|Qan ?_
 have bD := (((((Gr.refl w).trans Y2).md M4).trans G5).trans G7)
 refine Qbj (α := Nat × Int × List Int) ([10, 11] ++ rg 37 14) (fun ⟨n1, a5, a6⟩ => [(37, .int .i64 a5)]) (fun ⟨n1, a5, a6⟩ wr => (Qc3 (Qg3 p1 x1) n1 (a5, a6) = some r) ∧ Mo wr b7 a6 ∧ Kz [(1, b7)] w7 wr) (fun ⟨n1, a5, a6⟩ => n1) ⟨Qcw, 0, []⟩ ?_ ?_ ?_
 · exact sbq
 · exact ⟨hm, bC, Kz.refl _ _⟩
 clear hm; rintro ⟨n1, a5, a6⟩ w8 ⟨hm, G, K8⟩
 have cq := G.lt
 have hb := Qbv hm; clear hm; obtain ⟨n1, rfl, hm⟩ := hb
 generalize aB : Qc3 (Qg3 p1 x1) n1 = ar at hm
 unfold Qg3 at hm
 try dsimp only at hm
 refine qs 1 rfl<|qv rfl (Qcd (a := a5) (b := (p1.length : Int)) rfl rfl)<|Qa1<|Qa3<|Qam rfl (fun c4 => ?_) (fun c4 => ?_)
 · replace hm := iT c4 hm
   refine qu<|Qa3<|Qan<|qs 3 rfl ?_
   obtain ⟨y7, aS, hm⟩ := bnd hm
   have aT := (aA.kz K8 (tk1 (Qau (b := b7) ay)))
   refine qv rfl (Qf7 (i := a5) Tryz.underlying44 (Qaw).siz rfl aT rfl aS)<|qv rfl (Qk9 (q := 0) (u := .int .i64 y7) Qaw rfl aT aS (by first | rfl | omega) rfl)<|qm rfl<|qd 4 rfl ?_
   have bE := (((az.gr G5).gr G7).kz K8)
   refine qv rfl (Qa4 Qcf rfl bE rfl)<|qm rfl ?_
   obtain ⟨x8, bF, hm⟩ := bnd hm
   refine qe rfl (eC Xmg rfl (Qoa bF)) ?_
   rintro _ w9 ⟨rfl, G9⟩
   refine qm rfl<|Qa1<|Qan ?_
   have bG := (G.gr G9)
   refine Qbj (α := Nat × Int × List Int) ([11] ++ rg 44 6) (fun ⟨n2, z, H⟩ => [(11, .int .i64 z)]) (fun ⟨n2, z, H⟩ wr => (Qc3 (Qg9 a5 ar) n2 (z, H) = some r) ∧ Mo wr b7 H ∧ Kz [(1, b7)] w9 wr) (fun ⟨n2, z, H⟩ => n2) ⟨Qcw, x8, a6⟩ ?_ ?_ ?_
   · exact sbq
   · exact ⟨hm, bG, Kz.refl _ _⟩
   clear hm; rintro ⟨n2, z, H⟩ bH ⟨hm, J, aU⟩
   have hb := Qbv hm; clear hm; obtain ⟨n2, rfl, hm⟩ := hb
   generalize aC : Qc3 (Qg9 a5 ar) n2 = cr at hm
   unfold Qg9 at hm
   try dsimp only at hm
   refine Qa3<|qs 2 rfl<|qm rfl<|qv rfl (Qey (a := z) (b := 0) rfl rfl)<|Qa1<|cnF rfl (fun c5 => ?_) (fun c5 => ?_)
   · replace hm := iF c5 hm
     refine Qbp<|Qb4<|Qb4<|Qbq<|Qay<|Qaz<|qg 2 rfl ?_
     refine qv rfl (Qce (k := .i64) (a := a5) (b := 1) rfl rfl)<|qm rfl<|Qa9 ?_
     have K_32 : Kz [(1, b7)] w7 bH := ((K8.gr G9).kz aU)
     subst aB
     exact ⟨rfl, ⟨n1, w64 (a5 + 1), H⟩, sbq, ⟨hm, J, K_32⟩, Nat.lt_succ_self _⟩
   replace hm := iT c5 hm
   refine qu<|Qa3<|Qan<|qg 3 rfl<|qm rfl<|qm rfl ?_
   refine qe rfl (Xhh (k := z) Qru rfl rfl rfl J) ?_
   rintro _ bI ⟨aV, bJ⟩
   refine Qa9<|Qay<|Qaz<|qg 3 rfl<|qm rfl ?_
   obtain ⟨bK, hn13, hm⟩ := bnd hm
   refine qv rfl (Qze (a := z) (b := (un 1#64)) rfl rfl hn13)<|qm rfl<|Qa9 ?_
   have K_31 : Kz [(1, b7)] w9 bI := (aU.md bJ)
   subst aC
   exact ⟨rfl, ⟨n2, Xk0 z bK, Xcb H z⟩, sbq, ⟨hm, aV, K_31⟩, Nat.lt_succ_self _⟩
 replace hm := iF c4 hm
 refine Qbp<|Qb4<|Qb4<|Qbq<|Qaz<|qs 1 rfl ?_
 refine qe rfl (Qa8 (cs := [(.slice none 0 0)]) Xrh rfl) ?_
 rintro _ cB ⟨o, rfl, bL, au, ad⟩
 have ct := au.lt
 refine qd 2 rfl<|qv rfl (Qfb rfl rfl)<|qm rfl<|Qa1<|Qa3 ?_
 refine qs 2 rfl<|qm rfl ?_
 have aW := (G.gr ad)
 refine qe rfl (Xhi Qru rfl aW) ?_
 rintro _ f ⟨B, rfl, bM, av, K⟩
 have cC := K.size
 have cu := av.lt
 refine Qa1<|Qan ?_
 have aX := (((bD.kz K8).trans ad).trans K)
 have cD := (((aA.kz K8 (tk1 (Qau (b := b7) ay))).gr ad).gr K)
 have bN := (aW.gr K)
 have bO := (au.gr K)
 refine Qbj (α := Nat × List Qaf × Value × Nat × Nat × List Int) ([14, 15, 16] ++ rg 54 77) (fun ⟨n3, s, vy17, zy17, gy17, rem⟩ => []) (fun ⟨n3, s, vy17, zy17, gy17, rem⟩ wr => (Xbq (Qex x1 a6) Qga n3 rem s = some r) ∧ Own wr zy17 gy17 131 2 vy17 (s.map Qaf.cs) ∧ Hdn (zy17 = 0 ∨ f.heap.size ≤ gy17) ∧ Bx wr o 107 [vy17] ∧ Mi wr B b7 a6 rem ∧ Kz [(1, o), (1, B)] f wr) (fun ⟨n3, s, vy17, zy17, gy17, rem⟩ => n3) ⟨Qcw, [], (.slice none 0 0), 0, 0, a6⟩ ?_ ?_ ?_
 · exact sbq
 · exact ⟨hm, (Qax _ 0 131 2), ⟨(.inl rfl)⟩, bO, av, Kz.refl _ _⟩
 clear hm; rintro ⟨n3, s, vy17, zy17, gy17, rem3⟩ cE ⟨hm, t, d, g, aw, C⟩
 have cF := C.size
 have cv := aw.lt
 refine qs 2 rfl ?_
 have aY := (bN.kz C)
 refine qe rfl (Xkt rfl aY aw) ?_
 rintro _ aZ (⟨rfl, hr, ae⟩ | ⟨k18, hk, rfl, MKw15, h⟩)
 · have cG := ae.size
   replace hm := Xk5 hm hr
   unfold Qga at hm
   try dsimp only at hm
   refine qm rfl<|Qa1<|Qa3<|Qkv rfl<|Qbp<|Qb4<|Qb4 ?_
   refine Qbq<|Qaz<|qs 2 rfl ?_
   have a0 := (g.gr ae)
   refine qv rfl (Qa2 (v := vy17) Qyt rfl a0 rfl) ?_
   have bP := (t.gr ae)
   obtain ⟨cH, a1, hm⟩ := bnd hm
   refine qe rfl (eC Xri rfl (Xga a1 _ _ _ _ bP)) ?_
   rintro _ cI ⟨a2, a3⟩
   refine qd 3 rfl ?_
   have bQ := (a0.kz a3 (tk1 (Qd7 (b := o) d)))
   refine qv rfl (Qa2 (v := vy17) Qyt rfl bQ rfl)<|qm rfl<|qm rfl<|Qa1<|Qag ?_
   have bR := (((aX.kz C).trans ae).kz a3 (tk1 (Qbs (A := (fun x => w.heap.size ≤ x)) d)))
   cases hm
   refine ⟨_, _, rfl, Qbk rfl (Qab rfl) (Qab rfl), ?_⟩
   exact ⟨vy17, zy17, gy17, rfl, a2, ⟨(Qbs (A := (fun x => w.heap.size ≤ x)) d)⟩, bR⟩
 have cJ := h.size
 have hb := Xnj hm hk; clear hm; obtain ⟨n3, rfl, hm⟩ := hb
 generalize hnx3 : Xbq (Qex x1 a6) Qga n3 (rem3.filter (· ≠ k18)) = L at hm
 unfold Qex at hm
 try dsimp only at hm
 refine qm rfl<|Qa1<|Qa3<|Qjs rfl<|qu<|Qan ?_
 refine qs 3 rfl ?_
 have af := (aY.md h)
 refine qv rfl (Xgw rfl af MKw15)<|qm rfl<|qm rfl<|Qa1<|Qa3<|qs 3 rfl ?_
 refine qv rfl (Qa0 Qlt rfl) ?_
 have a4 := (((((((az.gr G5).gr G7).kz K8).gr ad).gr K).kz C).md h)
 refine qv rfl (Qa2 (v := bv x1.1.kind) Qcu rfl a4 rfl)<|qv rfl (Qj9 (p := x1.1.kind) (q := 1#8) rfl rfl)<|Qa1<|Qam rfl (fun c6 => ?_) (fun c6 => ?_)
 · replace hm := iT c6 hm
   refine Qa3 ?_
   refine qj (β := Bool) (rg 61 9) (fun ag => [(69, .bool ag)]) (fun ag wr => (Qhl s L k18 ag = some r) ∧ Kz [] aZ wr) ?_ ?_
   · refine qg 9 rfl<|qm rfl<|qv rfl (Qey (a := k18) (b := 1) rfl rfl)<|qpF rfl (Qac rfl) (fun c8 => ?_) (fun c8 => ?_)
     · replace hm := iF c8 hm
       refine qk rfl<|qk rfl<|qk rfl<|qk rfl<|qk rfl<|qm rfl<|Qa9 ?_
       exact ⟨rfl, false, sbq, hm, kz0⟩
     replace hm := iT c8 hm
     refine qm rfl<|qm rfl ?_
     obtain ⟨a7, a8, hm⟩ := bnd hm
     refine qe rfl (eC Xe5 rfl (Qgc a8)) ?_
     rintro _ cK ⟨rfl, a9⟩
     have bS := (af.gr a9)
     refine qv rfl (Qqb (k := a7) (ks := a6) Qru rfl rfl bS)<|qv rfl (Xbo rfl)<|qm rfl<|Qa9 ?_
     exact ⟨rfl, (decide (¬ (a7 ∈ a6))), sbq, hm, (kz0.gr a9)⟩
   clear hm; rintro ag bT ⟨hm, D⟩
   have cL := D.size
   unfold Qhl at hm
   refine cnF rfl (fun c7 => ?_) (fun c7 => ?_)
   · replace hm := Qc7 c7 hm
     refine qu<|Qbp<|Qb4<|Qbq ?_
     have K_65 : Kz [(1, o), (1, B)] f bT := ((C.md h).kz D)
     have bU := ((t.md h (Qd7 d)).kz D)
     have bV := ((g.md h).kz D)
     have bW := (Mi.kz (Mk.mi MKw15) D)
     subst hnx3
     exact ⟨rfl, ⟨n3, s, vy17, zy17, gy17, (rem3.filter (· ≠ k18))⟩, sbq, ⟨hm, bU, ⟨(Qbs (A := (fun x => f.heap.size ≤ x)) d)⟩, bV, bW, K_65⟩, Nat.lt_succ_self _⟩
   replace hm := Qc8 c7 hm
   refine qg 4 rfl<|qm rfl<|qm rfl ?_
   obtain ⟨cM, ba, hm⟩ := bnd hm
   refine qe rfl (eC Xe5 rfl (Qgc ba)) ?_
   rintro _ cN ⟨rfl, ab⟩
   have cO := ab.size
   have bX := (((g.md h).kz D).gr ab)
   have bY := (((t.md h (Qd7 d)).kz D).gr ab)
   obtain ⟨bZ, bb, hm⟩ := bnd hm
   refine qe rfl (Qcy Xg8 rfl rfl (Qmg bb bX bY ⟨(tk1 (Qd7 (b := o) d))⟩)) ?_
   rintro _ b0 ⟨M, N, O, rfl, P, Q, ah, bc⟩
   refine Qa1<|Qbp<|Qb4<|Qbq ?_
   have K_63 : Kz [(1, o), (1, B)] f b0 := ((((C.md h).kz D).gr ab).kz bc (tk1 (Qbs (A := (fun x => f.heap.size ≤ x)) d)))
   have b2 := (Mi.kz (Mi.gr (Mi.kz (Mk.mi MKw15) D) ab) bc (tk1 (Qd7 (b := B) d)))
   subst hnx3
   exact ⟨rfl, ⟨n3, bZ, M, N, O, (rem3.filter (· ≠ k18))⟩, sbq, ⟨hm, P, ⟨(Qd3 (A := (fun x => f.heap.size ≤ x)) Q (Qbs (A := (fun x => f.heap.size ≤ x)) d))⟩, ah, b2, K_63⟩, Nat.lt_succ_self _⟩
 replace hm := iF c6 hm
 refine qu<|Qa3 ?_
 have b4 := ((aX.kz C).md h)
 refine qj (β := Bool) (rg 74 9) (fun ai => [(82, .bool ai)]) (fun ai wr => (Qf1 x1 a6 s L k18 ai = some r) ∧ Kz [] aZ wr) ?_ ?_
 · refine qg 9 rfl<|qm rfl<|qv rfl (Qey (a := k18) (b := 1) rfl rfl)<|qpF rfl (Qac rfl) (fun aD => ?_) (fun aD => ?_)
   · replace hm := iF aD hm
     refine qk rfl<|qk rfl<|qk rfl<|qk rfl<|qk rfl<|qm rfl<|Qa9 ?_
     exact ⟨rfl, false, sbq, hm, kz0⟩
   replace hm := iT aD hm
   refine qm rfl<|qm rfl ?_
   obtain ⟨bd, be, hm⟩ := bnd hm
   refine qe rfl (eC Xe5 rfl (Qgc be)) ?_
   rintro _ cP ⟨rfl, bf⟩
   have bg := (af.gr bf)
   refine qv rfl (Qqb (k := bd) (ks := a6) Qru rfl rfl bg)<|qv rfl (Xbo rfl)<|qm rfl<|Qa9 ?_
   exact ⟨rfl, (decide (¬ (bd ∈ a6))), sbq, hm, (kz0.gr bf)⟩
 clear hm; rintro ai aj ⟨hm, m⟩
 have cQ := m.size
 unfold Qf1 at hm
 refine Qam rfl (fun c9 => ?_) (fun c9 => ?_)
 · replace hm := Qc8 c9 hm
   refine Qbp<|Qb4<|Qbq ?_
   have K_75 : Kz [(1, o), (1, B)] f aj := ((C.md h).kz m)
   have b5 := ((t.md h (Qd7 d)).kz m)
   have b6 := ((g.md h).kz m)
   have b8 := (Mi.kz (Mk.mi MKw15) m)
   subst hnx3
   exact ⟨rfl, ⟨n3, s, vy17, zy17, gy17, (rem3.filter (· ≠ k18))⟩, sbq, ⟨hm, b5, ⟨(Qbs (A := (fun x => f.heap.size ≤ x)) d)⟩, b6, b8, K_75⟩, Nat.lt_succ_self _⟩
 replace hm := Qc7 c9 hm
 refine qu<|qs 2 rfl<|qm rfl<|qm rfl<|Qa1 ?_
 refine Qa3<|Qan ?_
 have b9 := (b4.kz m)
 have aE := ((t.md h (Qd7 d)).kz m)
 refine Qbj (α := Nat × Int) ([15] ++ rg 84 18) (fun ⟨n6, j⟩ => [(15, .int .i64 j)]) (fun ⟨n6, j⟩ wr => (Qc3 (Qe6 x1 a6 s L k18) n6 j = some r) ∧ Kz [] aj wr) (fun ⟨n6, j⟩ => n6) ⟨Qcw, k18⟩ ?_ ?_ ?_
 · exact sbq
 · exact ⟨hm, Kz.refl _ _⟩
 clear hm; rintro ⟨n6, j⟩ E ⟨hm, n⟩
 have cR := n.size
 have hb := Qbv hm; clear hm; obtain ⟨n6, rfl, hm⟩ := hb
 generalize ac : Qc3 (Qe6 x1 a6 s L k18) n6 = cw at hm
 unfold Qe6 at hm
 try dsimp only at hm
 refine Qa3<|qs 10 rfl<|qm rfl<|qm rfl<|qv rfl (Qjl (k := .i64) (a := 2) (b := j) rfl rfl) ?_
 have aF := ((af.kz m).kz n)
 refine qv rfl (Qqb (k := w64 (2 * j)) (ks := a6) Qru rfl rfl aF)<|qm rfl<|qm rfl<|qv rfl (Qjl (k := .i64) (a := 2) (b := j) rfl rfl)<|qv rfl (Qce (k := .i64) (a := w64 (2 * j)) (b := 1) rfl rfl)<|qv rfl (Qqb (k := w64 ((w64 (2 * j)) + 1)) (ks := a6) Qru rfl rfl aF)<|qv rfl (Xp1 Tryz.underlying4 rfl rfl) ?_
 refine Qa1<|Qam rfl (fun aG => ?_) (fun aG => ?_)
 · replace hm := Qc8 aG hm
   refine qu<|Qan<|qs 3 rfl<|qm rfl<|qv rfl (Qjl (k := .i64) (a := j) (b := 2) rfl rfl) ?_
   refine qm rfl<|qd 4 rfl<|qm rfl<|qm rfl<|qv rfl (Qqb (k := w64 (j * 2)) (ks := a6) Qru rfl rfl aF) ?_
   refine qv rfl (Xbo rfl)<|Qa1<|cnF rfl (fun aH => ?_) (fun aH => ?_)
   · replace hm := iF aH hm
     refine Qc4<|Qay ?_
     have K_85 : Kz [] aj E := n
     subst ac
     exact ⟨rfl, ⟨n6, w64 (j * 2)⟩, sbq, ⟨hm, K_85⟩, Nat.lt_succ_self _⟩
   replace hm := iT aH hm
   refine qg 3 rfl<|qm rfl<|qv rfl (Qce (k := .i64) (a := w64 (j * 2)) (b := 1) rfl rfl)<|qm rfl<|Qa9<|Qay ?_
   have K_84 : Kz [] aj E := n
   subst ac
   exact ⟨rfl, ⟨n6, w64 ((w64 (j * 2)) + 1)⟩, sbq, ⟨hm, K_84⟩, Nat.lt_succ_self _⟩
 replace hm := Qc7 aG hm
 refine Qbp<|Qb4<|Qb4<|Qbq<|Qaz<|Qa3<|Qa3 ?_
 refine qg 3 rfl<|qm rfl<|qm rfl<|qv rfl (Qeh (a := j) (b := k18) rfl rfl)<|Qa1<|Qam rfl (fun aI => ?_) (fun aI => ?_)
 · replace hm := iT aI hm
   refine Qbp<|Qb4<|Qbq ?_
   have K_86 : Kz [(1, o), (1, B)] f E := (((C.md h).kz m).kz n)
   have ca := (aE.kz n)
   have cb := (((g.md h).kz m).kz n)
   have cc := (Mi.kz (Mi.kz (Mk.mi MKw15) m) n)
   subst hnx3
   exact ⟨rfl, ⟨n3, s, vy17, zy17, gy17, (rem3.filter (· ≠ k18))⟩, sbq, ⟨hm, ca, ⟨(Qbs (A := (fun x => f.heap.size ≤ x)) d)⟩, cb, cc, K_86⟩, Nat.lt_succ_self _⟩
 replace hm := iF aI hm
 refine qu ?_
 have cS := (b9.kz n)
 refine qj (β := Int × List Qaf × Value × Nat × Nat) ([14, 16] ++ rg 105 22) (fun ⟨ak, al, vy29, zy29, gy29⟩ => [(14, .int .i64 ak)]) (fun ⟨ak, al, vy29, zy29, gy29⟩ wr => (Qho L j ak al = some r) ∧ Own wr zy29 gy29 131 2 vy29 (al.map Qaf.cs) ∧ Hdn (zy29 = 0 ∨ (gy29 = gy17 ∧ zy17 ≠ 0) ∨ E.heap.size ≤ gy29) ∧ Bx wr o 107 [vy29] ∧ Kz [(1, o), (zy17, gy17)] E wr) ?_ ?_
 · refine qs 5 rfl ?_
   have bh := ((a4.kz m).kz n)
   refine qv rfl (Qa4 Qcf rfl bh rfl)<|qm rfl<|qm rfl ?_
   obtain ⟨aJ, bi, hm⟩ := bnd hm
   refine qe rfl (eC Xml rfl (Qpo bi)) ?_
   rintro _ cd ⟨rfl, F⟩
   have cT := F.size
   refine qm rfl<|Qa1 ?_
   refine qj (β := Bool) (rg 109 13) (fun am => [(121, .bool am)]) (fun am wr => (Qd1 s L k18 j aJ am = some r) ∧ Kz [] cd wr) ?_ ?_
   · refine qg 13 rfl<|qm rfl<|qv rfl (Qc2 (a := aJ) (b := 0) rfl rfl)<|qpF rfl (Qac rfl) (fun aK => ?_) (fun aK => ?_)
     · replace hm := iF aK hm
       refine qk rfl<|qk rfl<|qk rfl<|qm rfl<|qm rfl<|qk rfl<|qk rfl ?_
       refine qk rfl<|qk rfl<|qm rfl<|Qa9 ?_
       exact ⟨rfl, false, sbq, hm, kz0⟩
     replace hm := iT aK hm
     refine qv rfl (Qa0 Qlt rfl) ?_
     have ax := (bh.gr F)
     refine qv rfl (Qa2 (v := bv x1.1.kind) Qcu rfl ax rfl)<|qv rfl (Qj9 (p := x1.1.kind) (q := 3#8) rfl rfl)<|qm rfl<|qpF rfl (Qac rfl) (fun aL => ?_) (fun aL => ?_)
     · replace hm := iF aL hm
       refine qk rfl<|qk rfl<|qk rfl<|qk rfl<|qm rfl<|Qa9 ?_
       exact ⟨rfl, false, sbq, hm, kz0⟩
     replace hm := iT aL hm
     refine qv rfl (Qa4 Qcf rfl ax rfl)<|qm rfl ?_
     obtain ⟨ce, bj, hm⟩ := bnd hm
     refine qe rfl (eC Xfz rfl (Qiq bj)) ?_
     rintro _ cU ⟨rfl, cf⟩
     refine qv rfl (Qci rfl)<|qm rfl<|Qa9 ?_
     exact ⟨rfl, (!ce), sbq, hm, (kz0.gr cf)⟩
   clear hm; rintro am cg ⟨hm, I⟩
   have cx := I.size
   unfold Qd1 at hm
   refine cnF rfl (fun aM => ?_) (fun aM => ?_)
   · replace hm := Qc7 aM hm
     refine Qc4 ?_
     have K_107 : Kz [(1, o), (zy17, gy17)] E cg := ((Kz.gr (Kz.refl _ _) F).kz I)
     have bk := (((aE.kz n).gr F).kz I)
     have bl := (((((g.md h).kz m).kz n).gr F).kz I)
     exact ⟨rfl, ⟨k18, s, vy17, zy17, gy17⟩, sbq, hm, bk, ⟨tk0⟩, bl, K_107⟩
   replace hm := Qc8 aM hm
   refine qs 4 rfl<|qm rfl<|qm rfl<|qm rfl ?_
   have bm := (((((g.md h).kz m).kz n).gr F).kz I)
   have bo := (((aE.kz n).gr F).kz I)
   obtain ⟨ch, bp, hm⟩ := bnd hm
   refine qe rfl (Qcy Xg8 rfl rfl (Qmg bp bm bo ⟨(tk1 (Qd7 (b := o) d))⟩)) ?_
   rintro _ cV ⟨R, S, T, rfl, U, V, an, ci⟩
   refine Qa1<|qg 2 rfl<|qm rfl<|qm rfl<|Qa9 ?_
   exact ⟨rfl, ⟨aJ, ch, R, S, T⟩, sbq, hm, U, ⟨(Qd3 (A := (fun x => (x = gy17 ∧ zy17 ≠ 0) ∨ E.heap.size ≤ x)) V tk0)⟩, an, (((Kz.gr (Kz.refl _ _) F).kz I).kz ci (tk1 (tk0 : zy17 = 0 ∨ (gy17 = gy17 ∧ zy17 ≠ 0) ∨ E.heap.size ≤ gy17)))⟩
 clear hm; rintro ⟨ak, al, vy29, zy29, gy29⟩ cW ⟨hm, ao, y, ap, aN⟩
 have cX := aN.size
 unfold Qho at hm
 refine qg 4 rfl<|qm rfl<|qm rfl<|qm rfl ?_
 obtain ⟨cj, bq, hm⟩ := bnd hm
 refine qe rfl (Qcy Xg8 rfl rfl (Qmg bq ap ao ⟨(tk1 (Qd2 (b := o) y (Qd7 d)))⟩)) ?_
 rintro _ ck ⟨W, X, Y, rfl, Z, aa, aq, br⟩
 refine Qa9<|Qay ?_
 have K_96 : Kz [(1, o), (1, B)] f ck := (((((C.md h).kz m).kz n).kz aN (tk1 (Qbs (A := (fun x => f.heap.size ≤ x)) d))).kz br (tk1 (Qd3 (A := (fun x => f.heap.size ≤ x)) y (Qbs (A := (fun x => f.heap.size ≤ x)) d))))
 have cl := (Mi.kz (Mi.kz (Mi.kz (Mi.kz (Mk.mi MKw15) m) n) aN (tk1 (Qd7 (b := B) d))) br (tk1 (Qd2 (b := B) y (Qd7 d))))
 subst hnx3
 exact ⟨rfl, ⟨n3, cj, W, X, Y, (rem3.filter (· ≠ k18))⟩, sbq, ⟨hm, Z, ⟨(Qd3 (A := (fun x => f.heap.size ≤ x)) aa (Qd3 (A := (fun x => f.heap.size ≤ x)) y (Qbs (A := (fun x => f.heap.size ≤ x)) d)))⟩, aq, cl, K_96⟩, Nat.lt_succ_self _⟩
theorem Xaa {p0 p1 p2 p3 vp2 zp2 gp2 op2 r} (hm : Qkq p0 p1 p2 p3 = some r) {w : World} (R : Rd w zp2 gp2 op2 2 vp2 (p2.map Qaf.cs)) :
    Calls Tryz.prog 52 [kv p0, .agg (Qa7.cs p1).toArray, vp2, kv p3].toArray w fun e w' => ∃ v, e = .returned v ∧ (∃ ur0_0 zr0_0 gr0_0 ur0_2 zr0_2 gr0_2, v = .tuple [.agg (Qaa.cs r.1 ur0_0 ur0_2).toArray, .int .i64 r.2].toArray ∧ Own w' zr0_0 gr0_0 133 18 ur0_0 (r.1.Items.map Qcc.cs) ∧ Hdn (zr0_0 = 0 ∨ w.heap.size ≤ gr0_0) ∧ Own w' zr0_2 gr0_2 31 2 ur0_2 (r.1.Points.map Qah.cs) ∧ Hdn (zr0_2 = 0 ∨ w.heap.size ≤ gr0_2) ∧ Hdn (zr0_2 = 0 ∨ zr0_0 = 0 ∨ gr0_2 ≠ gr0_0) ∧ Gr w w') := by
 have K := R.lth
 unfold Qkq at hm
 refine Qa5 60 Tryz.func52 rfl rfl rfl<|qs 5 rfl<|qe rfl (Qaq (cs := kb p0) rfl rfl) ?_
 rintro _ w1 ⟨b1, rfl, aY, S, G1⟩
 have be := S.lt
 refine qe rfl (Qaq (cs := Qa7.cs p1) rfl rfl) ?_
 rintro _ w2 ⟨b2, rfl, aZ, T, G2⟩
 have bf := T.lt
 refine qe rfl (Qaq (cs := kb p3) rfl rfl) ?_
 rintro _ w3 ⟨b3, rfl, a0, U, G3⟩
 have bg := U.lt
 refine qe rfl (Qa8 (cs := Qaa.cs (Qaa.mk [] 0#64 [] k0 k0) (.slice none 0 0) (.slice none 0 0)) Quy rfl) ?_
 rintro _ w4 ⟨b4, rfl, a1, B, G4⟩
 have bh := B.lt
 refine qm rfl<|Qa1<|Qa3<|qs 3 rfl ?_
 have Y1 := Gr.trans G3 G4
 have V := (T.gr Y1)
 refine qv rfl (Qa4 Qcn rfl V rfl) ?_
 obtain ⟨x1, aw, hm⟩ := bnd hm
 refine qe rfl (eC Xa5 rfl (Qk2 aw)) ?_
 rintro _ w5 ⟨rfl, G5⟩
 have bi := G5.size
 refine qm rfl<|qd 2 rfl<|qm rfl<|qv rfl (Qc2 (a := x1) (b := 0) rfl rfl)<|Qa1 ?_
 refine Qam rfl (fun c1 => ?_) (fun c1 => ?_)
 · replace hm := iT c1 hm
   refine qs 4 rfl<|qv rfl (Qas (cs := Qaa.cs (Qaa.mk [] 0#64 [] k0 k0) (.slice none 0 0) (.slice none 0 0)) Qr4 rfl (by kernel_rfl))<|qm rfl ?_
   have ax := (B.gr G5)
   refine qe rfl (Qaj Qcs rfl rfl (Qaa.cs_ones _ _ _ rfl rfl) ax rfl rfl) ?_
   rintro _ w6 ⟨ay, M6⟩
   refine qm rfl<|qb ?_
   have Y2 := Gr.trans (Gr.trans (Gr.trans G1 G2) Y1) G5
   have az := (((Gr.refl w).trans Y2).md M6)
   cases hm
   refine ⟨_, _, rfl, Qbk rfl (Qap Qcs rfl ay rfl) (Qab rfl), ?_⟩
   exact ⟨(.slice none 0 0), 0, 0, (.slice none 0 0), 0, 0, rfl, (Qax _ 0 133 18), ⟨.inl rfl⟩, (Qax _ 0 31 2), ⟨.inl rfl⟩, ⟨(.inl rfl)⟩, az⟩
 replace hm := iF c1 hm
 refine qu<|Qa3<|qs 3 rfl<|qm rfl ?_
 have Y3 := Gr.trans (Gr.trans (Gr.trans G1 G2) Y1) G5
 have L := (R.gr Y3)
 refine qv rfl (Qbi (l := p2) (c := Qaf.cs) Tryz.underlying107 rfl L)<|qv rfl (Qey (a := (p2.length : Int)) (b := 64) rfl rfl)<|Qa1<|Qam rfl (fun c2 => ?_) (fun c2 => ?_)
 · replace hm := iT c2 hm
   refine qs 3 rfl<|qv rfl (Qas (cs := Qaa.cs (Qaa.mk [] 0#64 [] k0 k0) (.slice none 0 0) (.slice none 0 0)) Qr4 rfl (by kernel_rfl)) ?_
   have aA := (B.gr G5)
   refine qe rfl (Qaj Qcs rfl rfl (Qaa.cs_ones _ _ _ rfl rfl) aA rfl rfl) ?_
   rintro _ w7 ⟨aB, M7⟩
   refine qm rfl<|qb ?_
   have aC := (((Gr.refl w).trans Y3).md M7)
   cases hm
   refine ⟨_, _, rfl, Qbk rfl (Qap Qcs rfl aB rfl) (Qab rfl), ?_⟩
   exact ⟨(.slice none 0 0), 0, 0, (.slice none 0 0), 0, 0, rfl, (Qax _ 0 133 18), ⟨.inl rfl⟩, (Qax _ 0 31 2), ⟨.inl rfl⟩, ⟨(.inl rfl)⟩, aC⟩
 replace hm := iF c2 hm
 refine qu<|qs 9 rfl ?_
 have aD := (V.gr G5)
 refine qv rfl (Qa4 Qcn rfl aD rfl)<|qm rfl ?_
 obtain ⟨x2, aE, hm⟩ := bnd hm
 refine qe rfl (eC Xeb rfl (Qlw aE L)) ?_
 rintro _ w8 ⟨rfl, G8⟩
 have bj := G8.size
 refine qm rfl<|qm rfl<|qm rfl<|qe rfl (Qa8 (cs := Qa6.cs (Qa6.mk 0#8 0 0)) Qr8 rfl) ?_
 rintro _ w9 ⟨b9, rfl, a2, W, G9⟩
 have a3 := W.lt
 refine qe rfl (Qaj Qcf rfl rfl rfl W rfl rfl) ?_
 rintro _ bk ⟨X, n⟩
 have bl := n.size
 refine qm rfl<|Qa1<|Qa3<|qs 2 rfl<|qm rfl<|qv rfl (Qc2 (a := x2.2) (b := 0) rfl rfl) ?_
 refine Qa1<|Qam rfl (fun c3 => ?_) (fun c3 => ?_)
 · replace hm := iT c3 hm
   refine qs 4 rfl<|qv rfl (Qas (cs := Qaa.cs (Qaa.mk [] 0#64 [] k0 k0) (.slice none 0 0) (.slice none 0 0)) Qr4 rfl (by kernel_rfl))<|qm rfl ?_
   have Y4 := Gr.trans (Gr.trans G5 G8) G9
   have aF := ((B.gr Y4).md n)
   refine qe rfl (Qaj Qcs rfl rfl (Qaa.cs_ones _ _ _ rfl rfl) aF rfl rfl) ?_
   rintro _ bm ⟨Y, aG⟩
   refine qm rfl<|qb ?_
   have aH := ((((((Gr.refl w).trans Y3).trans G8).trans G9).md n).md aG)
   cases hm
   refine ⟨_, _, rfl, Qbk rfl (Qap Qcs rfl Y rfl) (Qab rfl), ?_⟩
   exact ⟨(.slice none 0 0), 0, 0, (.slice none 0 0), 0, 0, rfl, (Qax _ 0 133 18), ⟨.inl rfl⟩, (Qax _ 0 31 2), ⟨.inl rfl⟩, ⟨(.inl rfl)⟩, aH⟩
 replace hm := iF c3 hm
 refine qu<|qs 5 rfl ?_
 have Y5 := Gr.trans (Gr.trans (Gr.trans G4 G5) G8) G9
 have Z := ((U.gr Y5).md n)
 refine qv rfl (Qa4 Qak rfl Z rfl)<|qe rfl (eC Qpe rfl (Qes p3 (un8 53#8) (Qiy _) (Qiw _) 0#64 _)) ?_
 rintro _ bo ⟨rfl, aa⟩
 have bp := aa.size
 refine qv rfl (Qas (cs := Qaa.cs (Qaa.mk [] 0#64 [] k0 (drv p3 (un8 53#8) 0#64)) (.slice none 0 0) (.slice none 0 0)) Qr4 rfl (by obtain ⟨aI, M⟩ := Xc0 (drv p3 (un8 53#8) 0#64); rw [← M]; exact (Qk4 rfl rfl rfl (by kernel_rfl))))<|qe rfl (Qa8 (cs := Qaa.cs (Qaa.mk [] 0#64 [] k0 k0) (.slice none 0 0) (.slice none 0 0)) Quy rfl) ?_
 rintro _ bq ⟨f, rfl, aJ, F, ab⟩
 have br := ab.size
 have a4 := F.lt
 refine qe rfl (Qaj Qcs rfl rfl (Qaa.cs_ones _ _ _ rfl rfl) F rfl rfl) ?_
 rintro _ u ⟨ac, p⟩
 have bs := p.size
 refine Qa1<|Qa3<|qs 3 rfl<|qm rfl ?_
 have Y6 := Gr.trans G8 G9
 have Y7 := Gr.trans aa ab
 have ad := ((((L.gr Y6).md n (Qau K)).gr Y7).md p (Qau K))
 refine qv rfl (Qbi (l := p2) (c := Qaf.cs) Tryz.underlying107 rfl ad)<|qm rfl<|Qa1<|Qan ?_
 have aK := ((((((Gr.refl w).trans Y3).trans Y6).md n).trans Y7).md p)
 refine Qbj (α := Nat × Int × List Qcc × Value × Nat × Nat) ([15] ++ rg 41 18) (fun ⟨n1, a6, a7, vy8, zy8, gy8⟩ => [(41, .int .i64 a6)]) (fun ⟨n1, a6, a7, vy8, zy8, gy8⟩ wr => (Qc3 (Qig p0 p2 p3 x2) n1 (a6, a7) = some r) ∧ Own wr zy8 gy8 133 18 vy8 (a7.map Qcc.cs) ∧ Hdn (zy8 = 0 ∨ u.heap.size ≤ gy8) ∧ Bx wr f 48 (Qaa.cs (Qaa.mk a7 0#64 [] k0 (drv p3 (un8 53#8) 0#64)) vy8 (.slice none 0 0)) ∧ Kz [(1, f)] u wr) (fun ⟨n1, a6, a7, vy8, zy8, gy8⟩ => n1) ⟨Qcw, 0, [], (.slice none 0 0), 0, 0⟩ ?_ ?_ ?_
 · exact sbq
 · exact ⟨hm, (Qax _ 0 133 18), ⟨(.inl rfl)⟩, ac, Kz.refl _ _⟩
 clear hm; rintro ⟨n1, a6, a7, vy8, zy8, gy8⟩ bu ⟨hm, g, d, j, o⟩
 have bw := o.size
 have C := g.lth
 have a5 := j.lt
 have hb := Qbv hm; clear hm; obtain ⟨n1, rfl, hm⟩ := hb
 generalize N : Qc3 (Qig p0 p2 p3 x2) n1 = a8 at hm
 unfold Qig at hm
 try dsimp only at hm
 refine qs 1 rfl<|qv rfl (Qcd (a := a6) (b := (p2.length : Int)) rfl rfl)<|Qa1<|Qa3<|cnF rfl (fun c4 => ?_) (fun c4 => ?_)
 · replace hm := iF c4 hm
   refine Qbp<|Qb4<|Qb4<|Qbq<|Qaz<|qs 3 rfl ?_
   refine qv rfl (Qa4 Qcs rfl j rfl) ?_
   have Y8 := Gr.trans G5 Y6
   have aL := (((((B.gr Y8).md n).gr Y7).md p).kz o)
   refine qe rfl (Qaj Qcs rfl rfl (Qaa.cs_ones _ _ _ (Own.oneB g) rfl) aL rfl rfl) ?_
   rintro _ bx ⟨ae, af⟩
   refine qm rfl<|Qa1<|Qag ?_
   have aM := (g.md af (Qd7 d))
   have aN := ((aK.kz o).md af)
   cases hm
   refine ⟨_, _, rfl, Qbk rfl (Qap Qcs rfl ae rfl) (Qab rfl), ?_⟩
   exact ⟨vy8, zy8, gy8, (.slice none 0 0), 0, 0, rfl, aM, ⟨(Qbs (A := (fun x => w.heap.size ≤ x)) d)⟩, (Qax _ 0 31 2), ⟨.inl rfl⟩, ⟨(.inl rfl)⟩, aN⟩
 replace hm := iT c4 hm
 refine qu<|Qa3<|Qan<|qs 4 rfl ?_
 obtain ⟨y9, ag, hm⟩ := bnd hm
 have ah := (ad.kz o (tk1 (Qau (b := f) K)))
 refine qv rfl (Qf7 (i := a6) Tryz.underlying107 (Qjd).siz rfl ah rfl ag)<|qv rfl (Qhs Qjd rfl ah ag (by first | rfl | omega))<|qe rfl (Qa8 (cs := Qaf.cs (Qaf.mk 0 0)) Xd6 rfl) ?_
 rintro _ bz ⟨ai, rfl, aO, G, y⟩
 have a9 := G.lt
 refine qe rfl (Qaj Qjd rfl rfl rfl G rfl rfl) ?_
 rintro _ bA ⟨aj, q⟩
 have bB := q.size
 refine Qa1<|dw [([f] ++ zf zy8 gy8),([] ++ zf zy8 gy8)] [(13, [1])] (.leaf [(0,10),(1,11),(2,10),(3,10),(4,10),(5,10),(7,10),(6,0),(8,0),(9,10),(10,0),(11,0),(12,10),(13,0)]) ?_
 intro h s ba
 refine Qal<|qh 0 rfl rfl (Kp.refl ([f] ++ zf zy8 gy8) h) (fun w hS => Qa0 Qhu rfl) ?_
 have ak := (((j.gr y).md q).gr s)
 refine qh 1 rfl rfl (Kp.refl ([] ++ zf zy8 gy8) h) (fun w hS => Qa2 (v := vy8) Qkf rfl (Bx.kp ak hS (tk1 (Qd7 (b := f) d))) rfl) ?_
 have al := (aj.gr s)
 refine qh 0 rfl rfl (Kp.refl ([f] ++ zf zy8 gy8) h) (fun w hS => Qa4 Qjd rfl (Bx.kp al hS (tk1 (Qau (b := ai) C))) rfl) ?_
 have aP := ((((((X.gr Y7).md p).kz o).gr y).md q).gr s)
 refine qh 0 rfl rfl (Kp.refl ([f] ++ zf zy8 gy8) h) (fun w hS => Qa4 Qcf rfl (Bx.kp aP hS (tk1 (Qd7 (b := b9) d))) rfl) ?_
 have Y9 := Gr.trans (Gr.trans (Gr.trans G2 Y1) G5) Y6
 have aQ := ((((((((S.gr Y9).md n).gr Y7).md p).kz o).gr y).md q).gr s)
 refine qh 0 rfl rfl (Kp.refl ([f] ++ zf zy8 gy8) h) (fun w hS => Qa4 Qak rfl (Bx.kp aQ hS (tk1 (Qd7 (b := b1) d))) rfl)<|qh 0 rfl rfl (Kp.refl ([f] ++ zf zy8 gy8) h) (fun w hS => Qa4 Qjd rfl (Bx.kp al hS (tk1 (Qau (b := ai) C))) rfl) ?_
 have aR := ((((((Z.gr Y7).md p).kz o).gr y).md q).gr s)
 refine qh 0 rfl rfl (Kp.refl ([f] ++ zf zy8 gy8) h) (fun w hS => Qa4 Qak rfl (Bx.kp aR hS (tk1 (Qd7 (b := b3) d))) rfl) ?_
 obtain ⟨D, am, hm⟩ := bnd hm
 refine qz [] rfl (eC Xmm rfl (Qpi am)) ⟨fun _ => tk0, fun _ => tk0, trivial⟩ ?_
 rintro _ bC ⟨rfl, O⟩
 have bD := O.size
 refine kG O<|qz [] rfl (eC Xep rfl (Xar D p3 _)) ⟨fun _ => tk0, fun _ => tk0, trivial⟩ ?_
 rintro _ bE ⟨rfl, P⟩
 have bF := P.size
 refine kG P ?_
 have E := Gr.trans O P
 have an := ((Kp.refl ([f] ++ zf zy8 gy8) h).gr E)
 refine qh 0 rfl rfl an (fun w hS => Qas (cs := Qcc.cs (Qcc.mk y9 (Qw4 D p3))) Xsc rfl (by obtain ⟨aI, M⟩ := Xc0 (Qw4 D p3); rw [← M]; exact (Qk4 rfl rfl rfl (Qk4 rfl rfl rfl (by kernel_rfl)))))<|qz [] rfl (Qdk [(Qcc.mk y9 (Qw4 D p3))] Qcc.cs Xl1 rfl rfl (Qjr rfl) rfl rfl rfl) ⟨fun _ => tk0, fun _ => tk0, trivial⟩ ?_
 rintro bb bG ⟨bc, aS, ao, z⟩
 have bH := z.size
 refine kG z ?_
 have aT := (((((g.gr y).md q (Qau C)).gr s).gr E).gr z)
 obtain ⟨ap, aq, hm⟩ := bnd hm
 refine qz [(zy8, gy8)] rfl (Qk1 (l := a7) (m := [(Qcc.mk y9 (Qw4 D p3))]) (c := Qcc.cs) Xrc rfl rfl aT (Own.rd ao) aq (by decide)) ⟨fun _ => (tk1 (tk0 : zy8 = 0 ∨ (gy8 = gy8 ∧ zy8 ≠ 0) ∨ h.heap.size ≤ gy8)), fun _ => (tk1 (tk0 : zy8 = 0 ∨ (gy8 = gy8 ∧ zy8 ≠ 0) ∨ h.heap.size ≤ gy8)), trivial⟩ ?_
 rintro H bI ⟨ar, au, I, t, bd, J⟩
 refine ⟨Kz.ofKa t, ?_⟩
 have aU := ((an.gr z).ka t (tk1 (tk0 : zy8 = 0 ∨ (gy8 = gy8 ∧ zy8 ≠ 0) ∨ h.heap.size ≤ gy8)))
 refine qh 0 rfl rfl aU (fun w hS => Qa0 Qhu rfl) ?_
 have aV := (((ak.gr E).gr z).ka t (tk1 (Qd7 (b := f) d)))
 refine qz [(1, f)] rfl (Qe9 (cs' := Qaa.cs (Qaa.mk ap 0#64 [] k0 (drv p3 (un8 53#8) 0#64)) H (.slice none 0 0)) (Qkf).siz rfl rfl (Own.oneB I) aV rfl rfl) ⟨fun _ => tk0, nofun, trivial⟩ ?_
 rintro _ aW ⟨av, Q⟩
 refine kM Q<|Qa9<|Qay<|Qaz<|qg 2 rfl<|qv rfl (Qce (k := .i64) (a := a6) (b := 1) rfl rfl)<|qm rfl ?_
 refine Qa9 ?_
 have K_56 : Kz [(1, f)] u aW := (((((((o.gr y).md q).gr s).gr E).gr z).ka t (tk1 (Qbs (A := (fun x => u.heap.size ≤ x)) d))).md Q)
 have aX := (I.md Q (Qvp J (Qd7 d)))
 subst N
 exact ⟨rfl, ⟨n1, w64 (a6 + 1), ap, H, ar, au⟩, sbq, ⟨hm, aX, ⟨(Qmj (A := (fun x => u.heap.size ≤ x)) J (Qbs (A := (fun x => u.heap.size ≤ x)) d))⟩, av, K_56⟩, Nat.lt_succ_self _⟩
end Go.Proofs.YtjdffpglgkefmaaGreat.Mx
