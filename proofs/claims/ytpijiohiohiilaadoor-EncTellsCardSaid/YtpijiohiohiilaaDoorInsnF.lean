/- What the package insn computes, reckoned number by number. -/
import Derived.Test.YtpijiohiohiilaaDoorDInsn
import Derived.Test.YtpijiohiohiilaaDoorGInsn
namespace Go.Proofs.YtpijiohiohiilaaDoor.InsnF
set_option linter.unusedVariables false
set_option linter.unusedSimpArgs false
open Go Go.RowKit Go.Proofs.YtpijiohiohiilaaDoor.D Go.Proofs.YtpijiohiohiilaaDoorW.PrintWords
theorem w64 {x : Int} (h : -9223372036854775808 ≤ x) (h' : x < 9223372036854775808) : wrap64 x = x := by unfold wrap64; omega
theorem known_ok {a : Int} (h : 1 ≤ a) (h' : a ≤ 94) : insn_known.f a = some true := by
  unfold insn_known.f
  rw [if_pos (by omega), w64 (by omega) (by omega)]; congr 1; rw [decide_eq_true_eq]; omega
theorem known_no {a : Int} (h0 : 0 ≤ a) (h1 : a < 256) (h : ¬(1 ≤ a ∧ a ≤ 94)) : insn_known.f a = some false := by
  unfold insn_known.f
  by_cases h2 : a ≥ 1
  · rw [if_pos h2, w64 (by omega) (by omega)]; congr 1; rw [decide_eq_false_iff_not]; omega
  · rw [if_neg h2]
theorem name_ok {n : Nat} (h : n < 94) : insn_Name.f ((n : Int) + 1) = some (namesL.getD n ⟨#[]⟩, 0) := by
  unfold insn_Name.f
  rw [known_ok (by omega) (by omega), Option.bind_some, if_pos rfl, if_pos ⟨by omega, by omega⟩, show ((n : Int) + 1 - 1).toNat = n from by omega]
theorem name_no {a : Int} (h0 : 0 ≤ a) (h1 : a < 256) (h : ¬(1 ≤ a ∧ a ≤ 94)) : insn_Name.f a = some (⟨#[]⟩, 2) := by
  unfold insn_Name.f
  rw [known_no h0 h1 h, Option.bind_some, if_neg (by decide)]
/-- Each number's name is found again: reckoned. -/
theorem of_names : ∀ n, n < 94 → insn_Of.f 200 (namesL.getD n ⟨#[]⟩) = some ((n : Int) + 1, 0) := by decide +kernel
/-- A name is an instruction's, or none is found. -/
theorem index_l0 (s : ByteArray) : ∀ (rest pre : List ByteArray) (k : Nat), rest.length < k → (pre ++ rest).length < 1000000 →
    (s.toList ∉ rest.map ByteArray.toList → slices_Index_string_string.l0 k (pre ++ rest) s ((pre ++ rest).length : Int) (pre.length : Int) = some (-1))
  | [], pre, k, hk, hl, hn => by
    obtain ⟨k, rfl⟩ : ∃ m, k = m + 1 := ⟨k - 1, by omega⟩
    simp only [slices_Index_string_string.l0]
    rw [if_neg (by simp)]
  | x :: rest, pre, k, hk, hl, hn => by
    obtain ⟨k, rfl⟩ : ∃ m, k = m + 1 := ⟨k - 1, by omega⟩
    have hln : (pre ++ x :: rest).length = pre.length + (rest.length + 1) := by simp
    have hrd : rdOf ByteArray.empty (pre ++ x :: rest) (pre.length : Int) = x := by
      unfold rdOf; rw [Int.toNat_natCast]; simp
    simp only [slices_Index_string_string.l0]
    simp only [List.map_cons, List.mem_cons, not_or] at hn
    rw [if_pos (by omega), if_pos (by omega), if_pos (by omega), hrd, if_neg hn.1, w64 (by omega) (by omega)]
    have key := index_l0 s rest (pre ++ [x]) k (by simp at hk; omega) (by simpa using hl) hn.2
    simp only [List.append_assoc, List.singleton_append, List.length_append, List.length_cons, List.length_nil, Nat.zero_add, Int.natCast_add, Int.natCast_one] at key ⊢
    exact key
theorem of_no (s : ByteArray) (h : s.toList ∉ namesL.map ByteArray.toList) : insn_Of.f 200 s = some (0, 6) := by
  unfold insn_Of.f slices_Index_string_string.f
  have := index_l0 s namesL [] 200 (by decide) (by decide) h
  simp only [List.nil_append, List.length_nil] at this
  have e : ((0 : Nat) : Int) = 0 := rfl
  rw [e] at this
  rw [this, Option.bind_some, if_pos (by decide)]
end Go.Proofs.YtpijiohiohiilaaDoor.InsnF
