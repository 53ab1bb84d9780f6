/- RuleNotesMatchSpec: the walk. -/
import Derived.Test.YtbphihljkbdfpaaGreatDoorZ17
import Derived.Test.YtbphihljkbdfpaaGreatDoorZ18
import Derived.Test.YtbphihljkbdfpaaGreatDoorZ22
namespace Go.Proofs.YtbphihljkbdfpaaGreatDoor
set_option linter.unusedSimpArgs false
set_option linter.unusedVariables false
open Go.RowKit

theorem ofNote4_sem (tag : Str) (c : UInt8) (els : List Int) (hs : tag.length ≤ 9223372036854775807) : Sem Tryz.prog 8 [.str tag, .int .u8 c.toNat, .sl 0 1 (els.map numR)] (.tup [.agg (ofNote tag c els).1.row, .int .i64 (ofNote tag c els).2]) := by
  unfold ofNote
  by_cases h0 : noteErr tag c els = 0
  · rw [if_neg (by simp [h0])]
    by_cases h69 : c.toNat = 69
    · exact ofNote4_c tag c els hs h0 h69
    · exact ofNote4_b tag c els hs h0 h69
  · rw [if_pos h0]
    have h := ofNote4_err tag c els hs h0
    show Sem _ _ _ (.tup [.agg noneC.row, .int .i64 (noteErr tag c els)])
    rw [noneC, Cond.row_mk]
    exact h
theorem law19_sem (tag : Str) (c : UInt8) (els : List Int) (hs : tag.length ≤ 9223372036854775807) : Sem Tryz.prog 3 [.str tag, .int .u8 c.toNat, .sl 0 1 (els.map numR)] (.bool true) :=
  law19_of tag c els hs (ofNote4_sem tag c els hs)
end Go.Proofs.YtbphihljkbdfpaaGreatDoor
