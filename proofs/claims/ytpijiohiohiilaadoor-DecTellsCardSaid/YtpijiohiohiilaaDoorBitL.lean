/- Plain lemmas about the bits of natural numbers, and about Go's operations on 32 bits as such; no program in sight. -/
import Derived.Laws.BitsAllLaws
import Derived.Laws.Bits64
import Derived.RowKit
import Derived.Test.YtpijiohiohiilaaDoorWMore
import Derived.Test.YtpijiohiohiilaaDoorWWords
namespace Go.Proofs.YtpijiohiohiilaaDoor.BitL
set_option linter.unusedVariables false
set_option linter.unusedSimpArgs false
open Go Go.RowKit Go.Proofs.YtpijiohiohiilaaDoorW.PrintMore Go.Proofs.YtpijiohiohiilaaDoorW.PrintWords

theorem b32 : (2 : Nat) ^ 32 = 4294967296 := rfl
theorem lt_of_bits {a : Nat} (n : Nat) (h : ∀ i, n ≤ i → a.testBit i = false) : a < 2 ^ n := Nat.lt_pow_two_of_testBit _ h
theorem bit_ge {a n i : Nat} (h : a < 2 ^ n) (hi : n ≤ i) : a.testBit i = false :=
  Nat.testBit_lt_two_pow (Nat.lt_of_lt_of_le h (Nat.pow_le_pow_right (by decide) hi))
theorem pow_le_32 {n : Nat} (h : n ≤ 32) : 2 ^ n ≤ 4294967296 := Nat.pow_le_pow_right (n := 2) (by decide) h
theorem pow_lt_32 {n : Nat} (h : n < 32) : 2 ^ n < 4294967296 := Nat.pow_lt_pow_right (a := 2) (by decide) h
theorem cast_pow (n : Nat) : ((2 ^ n : Nat) : Int) = (2 : Int) ^ n := by simp

/-- What stands in a, and not in m. -/
theorem testBit_andNot {a m : Nat} (_ha : a < 4294967296) (hm : m < 4294967296) (i : Nat) : (a &&& (4294967295 - m)).testBit i = (a.testBit i && !m.testBit i) := by
  have e : 4294967295 - m = 2 ^ 32 - (m + 1) := by omega
  rw [e, Nat.testBit_and, Nat.testBit_two_pow_sub_succ hm]
  by_cases h : i < 32
  · simp [h]
  · have : a.testBit i = false := bit_ge (n := 32) _ha (by omega)
    simp [this]
theorem andNot_mask_zero {a n : Nat} (ha : a < 4294967296) (hn : n ≤ 32) : a &&& (4294967295 - (2 ^ n - 1)) = 0 ↔ a < 2 ^ n := by
  have hm : 2 ^ n - 1 < 4294967296 := by have := pow_le_32 hn; have := Nat.two_pow_pos n; omega
  constructor
  · intro h
    refine lt_of_bits n fun i hi => ?_
    have := congrArg (fun x => x.testBit i) h
    simp only [testBit_andNot ha hm, Nat.testBit_two_pow_sub_one, Nat.zero_testBit] at this
    have h' : decide (i < n) = false := by simp; omega
    simpa [h'] using this
  · intro h
    refine Nat.eq_of_testBit_eq fun i => ?_
    rw [testBit_andNot ha hm, Nat.testBit_two_pow_sub_one, Nat.zero_testBit]
    by_cases hi : i < n
    · simp [hi]
    · rw [bit_ge h (by omega : n ≤ i)]; simp
theorem add_eq_or {a b : Nat} (h : ∀ i, (a.testBit i && b.testBit i) = false) : a + b = a ||| b := by
  have hab : a &&& b = 0 := Nat.eq_of_testBit_eq fun i => by rw [Nat.testBit_and, Nat.zero_testBit]; exact h i
  obtain ⟨n, hn⟩ : ∃ n, a < 2 ^ n ∧ b < 2 ^ n := ⟨a + b, Nat.lt_of_le_of_lt (Nat.le_add_right a b) Nat.lt_two_pow_self, Nat.lt_of_le_of_lt (Nat.le_add_left b a) Nat.lt_two_pow_self⟩
  have key := BitVec.add_eq_or_of_and_eq_zero (BitVec.ofNat (n + 1) a) (BitVec.ofNat (n + 1) b) (by
    apply BitVec.eq_of_toNat_eq
    rw [BitVec.toNat_and, BitVec.toNat_ofNat, BitVec.toNat_ofNat, ← Nat.and_mod_two_pow, hab]; simp)
  have k2 := congrArg BitVec.toNat key
  have hp : 2 ^ (n + 1) = 2 ^ n + 2 ^ n := by rw [Nat.pow_succ]; omega
  rw [BitVec.toNat_add, BitVec.toNat_or, BitVec.toNat_ofNat, BitVec.toNat_ofNat, Nat.mod_eq_of_lt (by omega : a < 2 ^ (n + 1)), Nat.mod_eq_of_lt (by omega : b < 2 ^ (n + 1)), Nat.mod_eq_of_lt (by omega)] at k2
  exact k2

/-! ### Go's operations -/
theorem shl_u32 (x n : Nat) : shl .u32 (x : Int) (n : Int) = ((x * 2 ^ n % 4294967296 : Nat) : Int) := by
  unfold shl
  rw [IntKind.wrap_u32, Int.toNat_natCast]
  by_cases h : n ≤ 32
  · rw [show min n (IntKind.u32).bits = n from Nat.min_eq_left h, ← cast_pow]; omega
  · rw [show min n (IntKind.u32).bits = 32 from Nat.min_eq_right (by simp [IntKind.bits]; omega)]
    have : x * 2 ^ n % 4294967296 = 0 := by
      rw [show n = 32 + (n - 32) from by omega, Nat.pow_add, ← Nat.mul_assoc, Nat.mul_right_comm]; exact Nat.mul_mod_left _ _
    rw [this]; omega
theorem shr_u32 (x n : Nat) (hx : x < 4294967296) : shr .u32 (x : Int) (n : Int) = ((x / 2 ^ n : Nat) : Int) := by
  unfold shr
  rw [Int.toNat_natCast]
  by_cases h : n ≤ 32
  · rw [show min n (IntKind.u32).bits = n from Nat.min_eq_left h, ← cast_pow]; simp
  · rw [show min n (IntKind.u32).bits = 32 from Nat.min_eq_right (by simp [IntKind.bits]; omega)]
    have h1 : x / 2 ^ n = 0 := Nat.div_eq_of_lt (Nat.lt_of_lt_of_le hx (Nat.pow_le_pow_right (n := 2) (by decide) (by omega : 32 ≤ n)))
    rw [h1]; omega
theorem testBit_shl (x n i : Nat) : (x * 2 ^ n % 4294967296).testBit i = (decide (i < 32) && (decide (n ≤ i) && x.testBit (i - n))) := by
  rw [← b32, Nat.testBit_mod_two_pow, Nat.testBit_mul_two_pow]
theorem and_one (x : Nat) : x &&& 1 = if x.testBit 0 then 1 else 0 := by
  rw [Nat.and_one_is_mod, Nat.testBit_zero]
  rcases Nat.mod_two_eq_zero_or_one x with h | h <;> simp [h]
theorem shr_and_one (x n : Nat) : x / 2 ^ n &&& 1 = if x.testBit n then 1 else 0 := by
  rw [and_one, Nat.testBit_div_two_pow, Nat.zero_add]

/-! ### Fields -/
def takeN (w a n : Nat) : Nat := w / 2 ^ a % 2 ^ n
def putN (w a n v : Nat) : Nat := (w &&& (4294967295 - (2 ^ n - 1) * 2 ^ a % 4294967296)) ||| (v * 2 ^ a % 4294967296)
theorem takeN_lt (w a n : Nat) : takeN w a n < 2 ^ n := Nat.mod_lt _ (Nat.two_pow_pos n)
theorem takeN_bit (w a n i : Nat) : (takeN w a n).testBit i = (decide (i < n) && w.testBit (i + a)) := by
  unfold takeN; rw [Nat.testBit_mod_two_pow, Nat.testBit_div_two_pow]
theorem putN_bit {w a n v : Nat} (hw : w < 4294967296) (ha : a + n ≤ 32) (hv : v < 2 ^ n) (i : Nat) :
    (putN w a n v).testBit i = if a ≤ i ∧ i < a + n then v.testBit (i - a) else w.testBit i := by
  unfold putN
  rw [Nat.testBit_or, testBit_andNot hw (Nat.mod_lt _ (by decide)), testBit_shl, testBit_shl, Nat.testBit_two_pow_sub_one]
  by_cases h : a ≤ i ∧ i < a + n
  · have h1 : decide (i < 32) = true := by simp; omega
    have h2 : decide (a ≤ i) = true := by simp; omega
    have h3 : decide (i - a < n) = true := by simp; omega
    rw [if_pos h, h1, h2, h3]; simp
  · rw [if_neg h]
    by_cases ha' : a ≤ i
    · have h3 : decide (i - a < n) = false := by simp; omega
      have h4 : v.testBit (i - a) = false := bit_ge hv (by omega)
      rw [h3, h4]; simp
    · have h2 : decide (a ≤ i) = false := by simp; omega
      rw [h2]; simp
theorem putN_lt {w a n v : Nat} (hw : w < 4294967296) : putN w a n v < 4294967296 :=
  Nat.or_lt_two_pow (n := 32) (Nat.lt_of_le_of_lt Nat.and_le_left hw) (Nat.mod_lt _ (by decide))
theorem take_put {w a n v : Nat} (hw : w < 4294967296) (ha : a + n ≤ 32) (hv : v < 2 ^ n) : takeN (putN w a n v) a n = v := by
  refine Nat.eq_of_testBit_eq fun i => ?_
  rw [takeN_bit, putN_bit hw ha hv]
  by_cases h : i < n
  · rw [if_pos (by omega)]; simp [h]
  · simp [h, bit_ge hv (by omega : n ≤ i)]
/-- The same as a sum. -/
theorem putN_sum {w a n v : Nat} (hw : w < 4294967296) (ha : a + n ≤ 32) (hv : v < 2 ^ n) : putN w a n v + takeN w a n * 2 ^ a = w + v * 2 ^ a := by
  have e1 : ∀ {x : Nat}, x < 2 ^ n → ∀ i, (x * 2 ^ a).testBit i = (decide (a ≤ i) && x.testBit (i - a)) := fun _ i => Nat.testBit_mul_two_pow _ _ _
  let r := w &&& (4294967295 - (2 ^ n - 1) * 2 ^ a % 4294967296)
  have hr : ∀ i, r.testBit i = if a ≤ i ∧ i < a + n then false else w.testBit i := by
    intro i
    show (w &&& (4294967295 - (2 ^ n - 1) * 2 ^ a % 4294967296)).testBit i = _
    rw [testBit_andNot hw (Nat.mod_lt _ (by decide)), testBit_shl, Nat.testBit_two_pow_sub_one]
    by_cases h : a ≤ i ∧ i < a + n
    · have h1 : decide (i < 32) = true := by simp; omega
      have h2 : decide (a ≤ i) = true := by simp; omega
      have h3 : decide (i - a < n) = true := by simp; omega
      rw [if_pos h, h1, h2, h3]; simp
    · rw [if_neg h]
      by_cases ha' : a ≤ i
      · have h3 : decide (i - a < n) = false := by simp; omega
        rw [h3]; simp
      · have h2 : decide (a ≤ i) = false := by simp; omega
        rw [h2]; simp
  have disj : ∀ {x : Nat}, x < 2 ^ n → ∀ i, (r.testBit i && (x * 2 ^ a).testBit i) = false := by
    intro x hx i
    rw [hr, e1 hx]
    by_cases h : a ≤ i ∧ i < a + n
    · simp [h]
    · rw [if_neg h]
      by_cases ha' : a ≤ i
      · rw [bit_ge hx (by omega : n ≤ i - a)]; simp
      · simp [ha']
  have hsmall : ∀ {x : Nat}, x < 2 ^ n → x * 2 ^ a % 4294967296 = x * 2 ^ a := by
    intro x hx
    refine Nat.mod_eq_of_lt ?_
    have : x * 2 ^ a < 2 ^ n * 2 ^ a := Nat.mul_lt_mul_of_pos_right hx (Nat.two_pow_pos a)
    rw [← Nat.pow_add] at this
    exact Nat.lt_of_lt_of_le this (pow_le_32 (by omega))
  have p1 : putN w a n v = r + v * 2 ^ a := by
    rw [add_eq_or (disj hv)]; show r ||| (v * 2 ^ a % 4294967296) = _; rw [hsmall hv]
  have p2 : w = r + takeN w a n * 2 ^ a := by
    rw [add_eq_or (disj (takeN_lt w a n))]
    refine Nat.eq_of_testBit_eq fun i => ?_
    rw [Nat.testBit_or, hr, e1 (takeN_lt w a n), takeN_bit]
    by_cases h : a ≤ i ∧ i < a + n
    · rw [if_pos h, show i - a + a = i from by omega]
      have h2 : decide (a ≤ i) = true := by simp; omega
      have h3 : decide (i - a < n) = true := by simp; omega
      rw [h2, h3]; simp
    · rw [if_neg h]
      by_cases ha' : a ≤ i
      · have h3 : decide (i - a < n) = false := by simp; omega
        rw [h3]; simp
      · simp [ha']
  omega

/-! ### Bits at places -/
def scat (v : Nat) : Nat → List Nat → Nat
  | _, [] => 0
  | i, p :: ps => (if v.testBit i then 2 ^ p else 0) ||| scat v (i + 1) ps
def gath (w : Nat) : Nat → List Nat → Nat
  | _, [] => 0
  | i, p :: ps => (if w.testBit p then 2 ^ i else 0) ||| gath w (i + 1) ps
theorem ite_pow_bit (c : Bool) (p j : Nat) : (if c = true then 2 ^ p else 0 : Nat).testBit j = (c && decide (p = j)) := by
  cases c
  · simp
  · rw [if_pos rfl, Nat.testBit_two_pow]; simp
theorem scat_bit (v : Nat) : ∀ (ps : List Nat) (i j : Nat), (scat v i ps).testBit j = true ↔ ∃ m p, ps[m]? = some p ∧ p = j ∧ v.testBit (i + m) = true
  | [], i, j => by simp [scat]
  | p :: ps, i, j => by
    rw [scat, Nat.testBit_or, ite_pow_bit, Bool.or_eq_true, scat_bit v ps (i + 1) j]
    constructor
    · rintro (h | ⟨m, q, hm, hq, hv⟩)
      · simp at h; exact ⟨0, p, by simp, h.2, by simpa using h.1⟩
      · exact ⟨m + 1, q, by simpa using hm, hq, by rw [show i + (m + 1) = i + 1 + m from by omega]; exact hv⟩
    · rintro ⟨m, q, hm, hq, hv⟩
      cases m with
      | zero => left; simp at hm; simp [hm, hq]; simpa using hv
      | succ m => right; exact ⟨m, q, by simpa using hm, hq, by rw [show i + 1 + m = i + (m + 1) from by omega]; exact hv⟩
theorem gath_bit (w : Nat) : ∀ (ps : List Nat) (i j : Nat), (gath w i ps).testBit j = (decide (i ≤ j) && (match ps[j - i]? with | some p => w.testBit p | none => false))
  | [], i, j => by simp [gath]
  | p :: ps, i, j => by
    rw [gath, Nat.testBit_or, ite_pow_bit, gath_bit w ps (i + 1) j]
    by_cases h : i = j
    · subst h
      have : decide (i + 1 ≤ i) = false := by simp
      rw [this]; simp
    · have hne : decide (i = j) = false := by simp [h]
      rw [hne, Bool.and_false, Bool.false_or]
      by_cases h2 : i ≤ j
      · rw [show j - i = (j - (i + 1)) + 1 from by omega, List.getElem?_cons_succ]
        simp [show i + 1 ≤ j from by omega, h2]
      · simp [show ¬ i + 1 ≤ j from by omega, h2]
theorem scat_lt (v : Nat) {n : Nat} : ∀ (ps : List Nat) (i : Nat), (∀ p ∈ ps, p < n) → scat v i ps < 2 ^ n := fun ps i h =>
  lt_of_bits n fun j hj => by
    rw [Bool.eq_false_iff]; intro hb
    obtain ⟨m, p, hm, rfl, _⟩ := (scat_bit v ps i j).1 hb
    have := h p (List.mem_of_getElem? hm)
    omega
theorem gath_lt (w : Nat) (ps : List Nat) (i : Nat) : gath w i ps < 2 ^ (i + ps.length) := lt_of_bits _ fun j hj => by
  rw [gath_bit, List.getElem?_eq_none (by omega)]; simp
/-- What was scattered is gathered. -/
theorem gath_scat {v : Nat} {ps : List Nat} (hn : ps.Nodup) (hv : v < 2 ^ ps.length) : gath (scat v 0 ps) 0 ps = v := by
  refine Nat.eq_of_testBit_eq fun j => ?_
  rw [gath_bit]
  simp only [Nat.zero_le, decide_true, Bool.true_and, Nat.sub_zero]
  by_cases h : j < ps.length
  · rw [List.getElem?_eq_getElem h]
    show (scat v 0 ps).testBit ps[j] = v.testBit j
    rw [Bool.eq_iff_iff, scat_bit]
    constructor
    · rintro ⟨m, p, hm, hp, hb⟩
      have hm' : ps[m]? = ps[j]? := by rw [hm, hp, List.getElem?_eq_getElem h]
      have hml : m < ps.length := (List.getElem?_eq_some_iff.1 hm).1
      have : m = j := (List.getElem?_inj hml hn).1 hm'
      subst this; simpa using hb
    · intro hb; exact ⟨j, ps[j], List.getElem?_eq_getElem h, rfl, by simpa using hb⟩
  · rw [List.getElem?_eq_none (by omega)]
    exact (bit_ge hv (by omega)).symm
/-- What is gathered, scattered, is the word's bits at these places. -/
theorem scat_gath (w : Nat) (ps : List Nat) (j : Nat) : (scat (gath w 0 ps) 0 ps).testBit j = (decide (j ∈ ps) && w.testBit j) := by
  rw [Bool.eq_iff_iff, scat_bit]
  constructor
  · rintro ⟨m, p, hm, rfl, hb⟩
    rw [gath_bit] at hb
    simp [hm] at hb
    simp [hb, List.mem_of_getElem? hm]
  · intro h
    simp at h
    obtain ⟨m, hm⟩ := List.getElem?_of_mem h.1
    exact ⟨m, j, hm, rfl, by rw [gath_bit]; simp [hm, h.2]⟩
/-- As a sum: places that are all different. -/
theorem scat_sum (v : Nat) (p : Nat) (ps : List Nat) (i acc : Nat) (ha : acc.testBit p = false) : acc + (if v.testBit i then 2 ^ p else 0) = acc ||| (if v.testBit i then 2 ^ p else 0) := by
  refine add_eq_or fun j => ?_
  rw [ite_pow_bit]
  by_cases h : p = j
  · subst h; simp [ha]
  · simp [h]
end Go.Proofs.YtpijiohiohiilaaDoor.BitL
