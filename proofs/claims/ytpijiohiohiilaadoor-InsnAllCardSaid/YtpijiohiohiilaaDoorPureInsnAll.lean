/- InsnAll, the plain law: just the numbers from 1 to 94 have names and forms, and just these names are found. No condition. -/
import Derived.Test.YtpijiohiohiilaaDoorDInsnAll
import Derived.Test.YtpijiohiohiilaaDoorInsnF
namespace Go.Proofs.YtpijiohiohiilaaDoor.Pure
set_option linter.unusedVariables false
set_option linter.unusedSimpArgs false
open Go Go.RowKit Go.Proofs.YtpijiohiohiilaaDoor.D Go.Proofs.YtpijiohiohiilaaDoor.InsnF
theorem aliveAll : ∀ k, quoinlaw02_alive.f (200 + k) = some true := by
  intro k
  have h : quoinlaw02_alive.f 200 = some true := by decide +kernel
  induction k with
  | zero => exact h
  | succ k ih => exact quoinlaw02_alive.mono (200 + k) true ih
theorem of_mono (s : ByteArray) (r : Int × Int) (h : insn_Of.f 200 s = some r) : ∀ k, insn_Of.f (200 + k) s = some r
  | 0 => h
  | k + 1 => insn_Of.mono s (200 + k) r (of_mono s r h k)
theorem form_some : ∀ n : Nat, n < 256 → ∃ p, insn_Form.f (n : Int) = some p ∧ (p.2 == 0) = decide (1 ≤ n ∧ n ≤ 94) := by
  have : ∀ n : Nat, n < 256 → ((insn_Form.f (n : Int)).map fun p => (p.2 == 0)) = some (decide (1 ≤ n ∧ n ≤ 94)) := by decide +kernel
  intro n hn
  obtain ⟨p, hp, he⟩ := Option.map_eq_some_iff.1 (this n hn)
  exact ⟨p, hp, he⟩
theorem index_congr {s s' : ByteArray} (e : s.toList = s'.toList) : ∀ k l a b, slices_Index_string_string.l0 k l s a b = slices_Index_string_string.l0 k l s' a b
  | 0, l, a, b => by simp only [slices_Index_string_string.l0]
  | k + 1, l, a, b => by simp only [slices_Index_string_string.l0, e, index_congr e k]
theorem of_congr {s s' : ByteArray} (e : s.toList = s'.toList) (k : Nat) : insn_Of.f k s = insn_Of.f k s' := by
  unfold insn_Of.f slices_Index_string_string.f
  rw [index_congr e]
/-- Is a text one of the first names? -/
def isN (s : ByteArray) (n : Nat) : Bool := (namesL.take n).any fun x => x.toList == s.toList
theorem isN_succ (s : ByteArray) (n : Nat) (h : n < 94) : isN s (n + 1) = (isN s n || ((namesL.getD n ⟨#[]⟩).toList == s.toList)) := by
  unfold isN
  have hl : n < namesL.length := h
  rw [List.take_succ_eq_append_getElem hl, List.any_append, List.getD_eq_getElem?_getD, List.getElem?_eq_getElem hl]
  simp
theorem all_l0 (s : ByteArray) : ∀ (d n k : Nat), n + d = 256 → 4 * d + 200 < k →
    quoinlaw02_InsnAll.l0 k s (isN s (n - 1)) (n : Int) = some true
  | 0, n, k, hn, hk => by
    obtain ⟨k, rfl⟩ : ∃ m, k = m + 1 := ⟨k - 1, by omega⟩
    simp only [quoinlaw02_InsnAll.l0]
    rw [if_neg (by omega)]
    have e : n - 1 = 255 := by omega
    rw [e]
    obtain ⟨j, rfl⟩ : ∃ j, k = 200 + j := ⟨k - 200, by omega⟩
    by_cases hm : s.toList ∈ namesL.map ByteArray.toList
    · obtain ⟨x, hx, hxs⟩ := List.mem_map.1 hm
      obtain ⟨i, hi, hxi⟩ := List.getElem_of_mem hx
      have hi' : i < 94 := hi
      have hof : insn_Of.f 200 s = some ((i : Int) + 1, 0) := by
        have := of_names i hi'
        rw [List.getD_eq_getElem?_getD, List.getElem?_eq_getElem hi, Option.getD_some, hxi] at this
        rw [← of_congr hxs 200]; exact this
      rw [of_mono s _ hof, Option.bind_some]
      have : isN s 255 = true := by
        unfold isN
        rw [List.take_of_length_le (by rw [namesL_length]; decide), List.any_eq_true]
        exact ⟨x, hx, by rw [hxs]; simp⟩
      rw [this]; rfl
    · rw [of_mono s _ (of_no s hm), Option.bind_some]
      have : isN s 255 = false := by
        unfold isN
        rw [List.take_of_length_le (by rw [namesL_length]; decide), List.any_eq_false]
        intro x hx he
        exact hm (List.mem_map.2 ⟨x, hx, by simpa using he⟩)
      rw [this]; rfl
  | d + 1, n, k, hn, hk => by
    obtain ⟨k, rfl⟩ : ∃ m, k = m + 3 := ⟨k - 3, by omega⟩
    obtain ⟨p, hp, hp2⟩ := form_some n (by omega)
    simp only [quoinlaw02_InsnAll.l0]
    rw [if_pos (by omega), Int.emod_eq_of_lt (by omega) (by omega), hp]
    by_cases h : 1 ≤ n ∧ n ≤ 94
    · obtain ⟨m, rfl⟩ : ∃ m, n = m + 1 := ⟨n - 1, by omega⟩
      have hm : m < 94 := by omega
      have e1 : (((m + 1 : Nat)) : Int) = (m : Int) + 1 := by omega
      have hp3 : (p.2 == 0) = true := by rw [hp2]; simpa using h
      rw [e1, name_ok hm, Option.bind_some, Option.bind_some, if_pos (by omega)]
      simp only [insn_Many.f, Option.bind_some, quoinlaw02_InsnAll.j2]
      have hd : decide ((m : Int) + 1 ≤ 94) = true := by rw [decide_eq_true_eq]; omega
      rw [hd, hp3, if_neg (by decide)]
      simp only [quoinlaw02_InsnAll.j3]
      rw [if_neg (by decide), if_pos trivial]
      obtain ⟨j, rfl⟩ : ∃ j, k = 200 + j := ⟨k - 200, by omega⟩
      rw [of_mono _ _ (of_names m hm), Option.bind_some, if_pos rfl, w64 (by omega) (by omega), if_pos rfl, w64 (by omega) (by omega)]
      have key := all_l0 s d (m + 2) (200 + j) (by omega) (by omega)
      rw [show m + 2 - 1 = m + 1 from rfl, isN_succ s m hm, show (((m + 2 : Nat)) : Int) = (m : Int) + 1 + 1 from by omega] at key
      rw [show m + 1 - 1 = m from rfl]
      cases hi : isN s m
      · rw [hi, Bool.false_or] at key
        rw [if_neg (by decide)]; exact key
      · rw [hi, Bool.true_or] at key
        rw [if_pos rfl]; exact key
    · have hp3 : (p.2 == 0) = false := by rw [hp2]; simpa using h
      rw [name_no (by omega) (by omega) (by omega), Option.bind_some, Option.bind_some]
      have key := all_l0 s d (n + 1) k (by omega) (by omega)
      have hi : isN s (n + 1 - 1) = isN s (n - 1) := by
        by_cases h0 : n = 0
        · subst h0; rfl
        · unfold isN
          rw [List.take_of_length_le (by rw [namesL_length]; omega), List.take_of_length_le (by rw [namesL_length]; omega)]
      rw [hi, show (((n + 1 : Nat)) : Int) = (n : Int) + 1 from by omega] at key
      have fin : quoinlaw02_InsnAll.j2 (k + 2) s (isN s (n - 1)) (n : Int) (⟨#[]⟩ : ByteArray) 2 p.2 false = some true := by
        simp only [quoinlaw02_InsnAll.j2]
        rw [if_neg (by decide), hp3]
        simp only [quoinlaw02_InsnAll.j3]
        rw [if_neg (by decide), if_neg (by decide), w64 (by omega) (by omega)]
        exact key
      by_cases h1 : (n : Int) ≥ 1
      · rw [if_pos h1]
        simp only [insn_Many.f, Option.bind_some]
        have hd : decide ((n : Int) ≤ 94) = false := by rw [decide_eq_false_iff_not]; omega
        rw [hd]; exact fin
      · rw [if_neg h1]; exact fin
theorem InsnAll : ∀ (a0 : ByteArray), ∃ k, quoinlaw02_InsnAll.f k a0 = some true := by
  intro s
  refine ⟨200 + 1300, ?_⟩
  unfold quoinlaw02_InsnAll.f
  rw [aliveAll 1300, Option.bind_some]
  by_cases hl : (s.size : Int) > 1000
  · rw [if_pos hl]; simp [quoinlaw02_InsnAll.j0]
  · rw [if_neg hl]
    simp only [quoinlaw02_InsnAll.j0, Bool.not_true]
    rw [if_neg (by decide)]
    have := all_l0 s 256 0 1499 (by decide) (by decide)
    simpa [isN] using this
end Go.Proofs.YtpijiohiohiilaaDoor.Pure
