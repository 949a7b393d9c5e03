/- CoverExamples on the mirrors: the chapter's examples. Printed by a small program (see NOTES). -/
import Derived.Test.YtecempahccgijaaOpnXm
import Derived.Test.YtecempahccgijaaPq
set_option linter.unusedVariables false
set_option linter.unusedSimpArgs false
set_option maxRecDepth 100000
namespace Go.Sx
open Go

theorem xm_1 : law03_covers ⟨2#8, 3, 0, ⟨0#64, 0#64, 0#64⟩⟩ [2, 3] [1, 5] = some true := covers_ok (by decide) (by decide +kernel)
theorem xm_2 : law03_covers ⟨3#8, 3, 0, ⟨0#64, 0#64, 0#64⟩⟩ [2, 3] [1, 5] = some true := covers_ok (by decide) (by decide +kernel)
theorem xm_3 : law03_covers ⟨1#8, 3, 0, ⟨0#64, 0#64, 0#64⟩⟩ [0] [3, 0, 5, 0, 9, 0] = some true := covers_ok (by decide) (by decide +kernel)
theorem xm_4 : law03_covers ⟨2#8, 3, 0, ⟨0#64, 0#64, 0#64⟩⟩ [0] [1, 8] = some true := covers_ok (by decide) (by decide +kernel)
theorem xm_5 : law03_covers ⟨3#8, 3, 0, ⟨0#64, 0#64, 0#64⟩⟩ [0] [1, 8] = some true := covers_ok (by decide) (by decide +kernel)
theorem xm_6 : law03_covers ⟨2#8, 3, 0, ⟨0#64, 0#64, 0#64⟩⟩ [0, 7] [2, 8, 3, 15] = some true := covers_ok (by decide) (by decide +kernel)
theorem xm_7 : law03_covers ⟨1#8, 3, 0, ⟨0#64, 0#64, 0#64⟩⟩ ([] : List Int) [1, 0] = some true := covers_ok (by decide) (by decide +kernel)
theorem xm_8 : law03_covers ⟨2#8, 3, 0, ⟨0#64, 0#64, 0#64⟩⟩ ([] : List Int) [1, 0] = some true := covers_ok (by decide) (by decide +kernel)
theorem xm_9 : law03_covers ⟨2#8, 3, 0, ⟨0#64, 0#64, 0#64⟩⟩ [0, 1, 2, 3, 4, 5, 6, 7] ([] : List Int) = some true := covers_ok (by decide) (by decide +kernel)
theorem xm_10 : law03_covers ⟨1#8, 3, 0, ⟨0#64, 0#64, 0#64⟩⟩ [0, 1, 2, 3, 4, 5, 6, 7] ([] : List Int) = some true := covers_ok (by decide) (by decide +kernel)
theorem xm_11 : law03_covers ⟨2#8, 6, 0, ⟨0#64, 0#64, 0#64⟩⟩ [0] [1, 64] = some true := covers_ok (by decide) (by decide +kernel)
theorem xm_12 : law03_covers ⟨3#8, 6, 0, ⟨0#64, 0#64, 0#64⟩⟩ [0] [1, 64] = some true := covers_ok (by decide) (by decide +kernel)
theorem xm_13 : law03_covers ⟨2#8, 6, 0, ⟨0#64, 0#64, 0#64⟩⟩ [0, 32] [2, 64, 3, 96] = some true := covers_ok (by decide) (by decide +kernel)
theorem xm_14 : law03_covers ⟨3#8, 6, 0, ⟨0#64, 0#64, 0#64⟩⟩ [0, 32] [2, 8, 3, 12, 8, 64, 12, 96] = some true := covers_ok (by decide) (by decide +kernel)
theorem xm_J6 : law03_CoverExamples_J6 ⟨2#8, 3, 0, ⟨0#64, 0#64, 0#64⟩⟩ false = some true := by
  unfold law03_CoverExamples_J6
  rw [pcover_eq _ _ (by decide)]
  decide +kernel
theorem xm_J5 : law03_CoverExamples_J5 false = law03_CoverExamples_J6 ⟨2#8, 3, 0, ⟨0#64, 0#64, 0#64⟩⟩ false := by kernel_rfl
theorem xm_J4 : law03_CoverExamples_J4 false = law03_CoverExamples_J5 false := by kernel_rfl
theorem xm_J3 : law03_CoverExamples_J3 false = law03_CoverExamples_J4 false := by kernel_rfl
theorem xm_J2 : law03_CoverExamples_J2 false = some true := by
  unfold law03_CoverExamples_J2 law03_of
  simp only [cond_false]
  rw [bind_some, xm_11, bind_some]
  simp only [Bool.not_true, cond_false]
  rw [bind_some, xm_12, bind_some]
  simp only [Bool.not_true, cond_false]
  rw [bind_some, xm_13, bind_some]
  simp only [Bool.not_true, cond_false]
  rw [bind_some, xm_14, bind_some]
  exact xm_J3.trans (xm_J4.trans (xm_J5.trans xm_J6))
theorem xm_J1 : law03_CoverExamples_J1 false = some true := by
  unfold law03_CoverExamples_J1 law03_of
  simp only [cond_false]
  rw [bind_some, xm_6, bind_some]
  simp only [Bool.not_true, cond_false]
  rw [bind_some, xm_7, bind_some]
  simp only [Bool.not_true, cond_false]
  rw [bind_some, xm_8, bind_some]
  simp only [Bool.not_true, cond_false]
  rw [bind_some, xm_9, bind_some]
  simp only [Bool.not_true, cond_false]
  rw [bind_some, xm_10, bind_some]
  exact xm_J2
theorem law03_CoverExamples_ok : law03_CoverExamples = some true := by
  unfold law03_CoverExamples law03_of
  rw [alive_eq, bind_some]
  simp only [Bool.not_true, cond_false]
  rw [bind_some, xm_1, bind_some]
  simp only [Bool.not_true, cond_false]
  rw [bind_some, xm_2, bind_some]
  simp only [Bool.not_true, cond_false]
  rw [bind_some, xm_3, bind_some]
  simp only [Bool.not_true, cond_false]
  rw [bind_some, xm_4, bind_some]
  simp only [Bool.not_true, cond_false]
  rw [bind_some, xm_5, bind_some]
  exact xm_J1
end Go.Sx
