/- The program's With, Set, Without and Last, as plain lists; condition: lengths below 10^6. -/
import Derived.Test.YtabapiofkipkoaaXPLists
import Derived.Test.YtabapiofkipkoaaF31
import Derived.Test.YtabapiofkipkoaaF24
import Derived.Test.YtabapiofkipkoaaF26
import Derived.Test.YtabapiofkipkoaaF28
set_option linter.unusedVariables false
namespace Go.Proofs.Ytabapiofkipkoaa.Q
open Go.RowKit Go.Proofs.Ytabapiofkipkoaa.F Go.Proofs.YtabapiofkipkoaaW.PrintWords Go.Proofs.YtabapiofkipkoaaW.PrintLast Go.Proofs.YtabapiofkipkoaaW.PrintMore

theorem rows_Last_f {l : List ByteArray} {n : Int} (hl : l.length < 1000000) : rows_Last_string.f l n = some (lastS l n) := by
  unfold rows_Last_string.f lastS slices_Clone_string_string.f
  have e : wrap64 ((l.length : Int) - mn (mx n 0) (l.length : Int)) = ((l.length - n.toNat : Nat) : Int) := by
    rw [wrap_eq] <;> (unfold mx mn; (repeat' split) <;> omega)
  rw [e, if_pos (by omega), if_pos (by omega)]
  simp only [Int.toNat_natCast]
  rw [if_pos (by rw [List.length_drop]; omega)]
  rfl
theorem rows_With_f {l : List ByteArray} {a : Int} {v : ByteArray} (hl : l.length < 1000000) : rows_With_string.f l a v = some (withS l a v) := by
  unfold rows_With_string.f withS
  by_cases h : a < 0
  · rw [if_pos h, if_pos (.inl h)]
  · rw [if_neg h]
    by_cases h1 : a > (l.length : Int)
    · rw [if_pos h1, if_pos (.inr h1)]
    · rw [if_neg h1, if_pos (show l.length + 1 < 8796093022208 by omega), if_neg (by omega)]
theorem rows_Set_f {l : List ByteArray} {a : Int} {v : ByteArray} (hl : l.length < 1000000) : rows_Set_string.f l a v = some (setS l a v) := by
  unfold rows_Set_string.f setS
  by_cases h : a < 0
  · rw [if_pos h, if_pos (.inl h)]
  · rw [if_neg h]
    by_cases h1 : a ≥ (l.length : Int)
    · rw [if_pos h1, if_pos (.inr h1)]
    · rw [if_neg h1, if_pos (show l.length + 1 < 8796093022208 by omega), if_neg (by omega)]
theorem rows_Without_f {l : List ByteArray} {a : Int} (hl : l.length < 1000000) : rows_Without_string.f l a = some (withoutS l a) := by
  unfold rows_Without_string.f withoutS
  by_cases h : a < 0
  · rw [if_pos h, if_pos (.inl h)]
  · rw [if_neg h]
    by_cases h1 : a ≥ (l.length : Int)
    · rw [if_pos h1, if_pos (.inr h1)]
    · rw [if_neg h1, if_pos (show l.length + 1 < 8796093022208 by omega), if_neg (by omega)]
theorem len_with {l : List ByteArray} {a : Int} {v : ByteArray} : (withS l a v).1.length ≤ l.length + 1 := by
  unfold withS; split <;> simp; omega
theorem len_set {l : List ByteArray} {a : Int} {v : ByteArray} : (setS l a v).1.length ≤ l.length + 1 := by
  unfold setS; split <;> simp; omega
theorem len_without {l : List ByteArray} {a : Int} : (withoutS l a).1.length ≤ l.length + 1 := by
  unfold withoutS; split <;> simp; omega
end Go.Proofs.Ytabapiofkipkoaa.Q
