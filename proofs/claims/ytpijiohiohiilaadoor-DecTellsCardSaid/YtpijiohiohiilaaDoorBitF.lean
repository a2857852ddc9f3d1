/- What the package bits computes, told in plain numbers: each printed function at numbers in their bounds. -/
import Derived.Test.YtpijiohiohiilaaDoorDBits
import Derived.Test.YtpijiohiohiilaaDoorBitL
namespace Go.Proofs.YtpijiohiohiilaaDoor.BitF
set_option linter.unusedVariables false
set_option linter.unusedSimpArgs false
open Go Go.RowKit Go.Proofs.YtpijiohiohiilaaDoor.D Go.Proofs.YtpijiohiohiilaaDoorW.PrintMore Go.Proofs.YtpijiohiohiilaaDoorW.PrintWords Go.Proofs.YtpijiohiohiilaaDoor.BitL

theorem w64 {x : Int} (h : -9223372036854775808 ≤ x) (h' : x < 9223372036854775808) : wrap64 x = x := by unfold wrap64; omega
theorem u64w (n : Nat) (h : n ≤ 64) : IntKind.u64.wrap (n : Int) = n := by rw [IntKind.wrap_u64]; omega

theorem mask_ok (n : Nat) (h : n ≤ 32) : bits_mask.f (n : Int) = some ((2 ^ n - 1 : Nat) : Int) := by
  unfold bits_mask.f
  rw [u64w n (by omega), if_pos (by omega), show (1 : Int) = ((1 : Nat) : Int) from rfl, shl_u32, Nat.one_mul]
  by_cases e : n = 32
  · subst e; rfl
  · have h1 := pow_lt_32 (n := n) (by omega)
    have h2 := Nat.two_pow_pos n
    rw [Nat.mod_eq_of_lt h1]
    congr 1
    omega
theorem mask_lt (n : Nat) (h : n ≤ 32) : 2 ^ n - 1 < 4294967296 := by have := pow_le_32 h; have := Nat.two_pow_pos n; omega
theorem andNot_mask (v n : Nat) (hv : v < 4294967296) (h : n ≤ 32) : Go.bits .andNot .u32 (v : Int) ((2 ^ n - 1 : Nat) : Int) = 0 ↔ v < 2 ^ n := by
  rw [u32_andNot_nat v _ hv (mask_lt n h), ← andNot_mask_zero hv h]; omega
theorem field_ok {a n : Nat} (h1 : 1 ≤ n) (h2 : a + n ≤ 32) : bits_field.f (a : Int) (n : Int) = some true := by
  unfold bits_field.f
  rw [if_pos (by omega), if_pos (by omega), if_pos (by omega), w64 (by omega) (by omega)]
  congr 1; rw [decide_eq_true_eq]; omega
theorem field_no {a n : Int} (h : ¬(0 ≤ a ∧ a < 32 ∧ 1 ≤ n ∧ a + n ≤ 32)) : bits_field.f a n = some false := by
  unfold bits_field.f
  by_cases h0 : a ≥ 0
  · by_cases h1 : a < 32
    · by_cases h2 : n ≥ 1
      · rw [if_pos h0, if_pos h1, if_pos h2, w64 (by omega) (by omega)]
        congr 1; rw [decide_eq_false_iff_not]; omega
      · rw [if_pos h0, if_pos h1, if_neg h2]
    · rw [if_pos h0, if_neg h1]
  · rw [if_neg h0]
/-- A field that may be, in naturals. -/
theorem field_nat {a n : Int} (h : 0 ≤ a ∧ a < 32 ∧ 1 ≤ n ∧ a + n ≤ 32) : ∃ x y : Nat, a = x ∧ n = y ∧ 1 ≤ y ∧ x + y ≤ 32 ∧ x < 32 :=
  ⟨a.toNat, n.toNat, by omega, by omega, by omega, by omega, by omega⟩

theorem take_ok {w a n : Nat} (hw : w < 4294967296) (h1 : 1 ≤ n) (h2 : a + n ≤ 32) : bits_Take.f (w : Int) (a : Int) (n : Int) = some (((takeN w a n : Nat) : Int), 0) := by
  unfold bits_Take.f
  rw [field_ok h1 h2, Option.bind_some, if_pos rfl, if_pos (by omega), mask_ok n (by omega), Option.bind_some, shr_u32 w a hw,
    u32_and_nat _ _ (Nat.lt_of_le_of_lt (Nat.div_le_self _ _) hw) (mask_lt n (by omega)), Nat.and_two_pow_sub_one_eq_mod]
  rfl
theorem take_no {w a n : Int} (h : ¬(0 ≤ a ∧ a < 32 ∧ 1 ≤ n ∧ a + n ≤ 32)) : bits_Take.f w a n = some (0, 2) := by
  unfold bits_Take.f; rw [field_no h, Option.bind_some, if_neg (by simp)]
/-- Bits as a number, below 2^n. -/
def sgn (v n : Nat) : Int := if v < 2 ^ (n - 1) then (v : Int) else (v : Int) - (2 : Int) ^ n
theorem sign_ok {v n : Nat} (h1 : 1 ≤ n) (h2 : n ≤ 32) (hv : v < 2 ^ n) : bits_Sign.f (v : Int) (n : Int) = some (sgn v n, 0) := by
  have hv' : v < 4294967296 := Nat.lt_of_lt_of_le hv (pow_le_32 h2)
  unfold bits_Sign.f
  rw [if_neg (by omega), if_neg (by omega), mask_ok n h2, Option.bind_some, if_pos ((andNot_mask v n hv' h2).2 hv), w64 (by omega) (by omega), if_pos (by omega),
    show (32 : Int) - n = ((32 - n : Nat) : Int) from by omega, shl_u32]
  have e32 : 2 ^ n * 2 ^ (32 - n) = 4294967296 := by rw [← Nat.pow_add, show n + (32 - n) = 32 from by omega]
  have e31 : 2 ^ (n - 1) * 2 ^ (32 - n) = 2147483648 := by rw [← Nat.pow_add, show n - 1 + (32 - n) = 31 from by omega]
  have hp := Nat.two_pow_pos (32 - n)
  have hlt : v * 2 ^ (32 - n) < 4294967296 := by rw [← e32]; exact Nat.mul_lt_mul_of_pos_right hv hp
  rw [Nat.mod_eq_of_lt hlt]
  unfold shr
  rw [Int.toNat_natCast, show min (32 - n) (IntKind.i32).bits = 32 - n from Nat.min_eq_left (by simp [IntKind.bits])]
  have hpn := Nat.two_pow_pos n
  have hpow : 2 ^ n ≤ 4294967296 := pow_le_32 h2
  generalize hM : 2 ^ (32 - n) = M at *
  have hMI : ((2 : Int) ^ (32 - n)) = (M : Int) := by rw [← cast_pow, hM]
  rw [hMI]
  unfold sgn
  rw [← cast_pow n]
  by_cases hs : v < 2 ^ (n - 1)
  · rw [if_pos hs]
    have : v * M < 2147483648 := by rw [← e31]; exact Nat.mul_lt_mul_of_pos_right hs hp
    have e : wrap32 ((v * M : Nat) : Int) = (v : Int) * (M : Int) := by unfold wrap32; rw [Int.natCast_mul] at *; omega
    rw [e, Int.mul_ediv_cancel _ (by omega), w64 (by omega) (by omega)]
  · rw [if_neg hs]
    have : 2147483648 ≤ v * M := by rw [← e31]; exact Nat.mul_le_mul_right _ (by omega)
    have e : wrap32 ((v * M : Nat) : Int) = ((v : Int) - ((2 ^ n : Nat) : Int)) * (M : Int) := by
      rw [Int.sub_mul, ← Int.natCast_mul, ← Int.natCast_mul, e32]; unfold wrap32; omega
    rw [e, Int.mul_ediv_cancel _ (by omega), w64 (by omega) (by omega)]
theorem sign_no {v n : Int} (h : ¬(1 ≤ n ∧ n ≤ 32)) : bits_Sign.f v n = some (0, 2) := by
  unfold bits_Sign.f
  by_cases h1 : n < 1
  · rw [if_pos h1]
  · rw [if_neg h1, if_pos (by omega)]
theorem sign_big {v n : Nat} (h1 : 1 ≤ n) (h2 : n ≤ 32) (hv' : v < 4294967296) (hv : ¬ v < 2 ^ n) : bits_Sign.f (v : Int) (n : Int) = some (0, 2) := by
  unfold bits_Sign.f
  rw [if_neg (by omega), if_neg (by omega), mask_ok n h2, Option.bind_some, if_neg (fun h => hv ((andNot_mask v n hv' h2).1 h))]

theorem ediv_zero {x d : Int} (hd : 0 < d) : x / d = 0 ↔ 0 ≤ x ∧ x < d := by
  have h1 := Int.emod_add_mul_ediv x d
  have h2 := Int.emod_nonneg x (by omega : d ≠ 0)
  have h3 := Int.emod_lt_of_pos x hd
  constructor
  · intro h; rw [h] at h1; omega
  · rintro ⟨a, b⟩; exact Int.ediv_eq_zero_of_lt a b
theorem ediv_neg_one {x d : Int} (hd : 0 < d) : x / d = -1 ↔ -d ≤ x ∧ x < 0 := by
  have e : (x + d) / d = x / d + 1 := by
    have := Int.add_mul_ediv_right x 1 (by omega : d ≠ 0); rwa [Int.one_mul] at this
  have := ediv_zero (x := x + d) hd
  rw [e] at this
  constructor
  · intro h; have := this.1 (by omega); omega
  · intro h; have := this.2 (by omega); omega
theorem fits_ok {x : Int} {n : Nat} (hx : -9223372036854775808 ≤ x) (hx' : x < 9223372036854775808) (h1 : 1 ≤ n) (h2 : n ≤ 63) :
    bits_Fits.f x (n : Int) = some (decide (-((2 ^ (n - 1) : Nat) : Int) ≤ x ∧ x < ((2 ^ (n - 1) : Nat) : Int))) := by
  unfold bits_Fits.f
  rw [if_neg (by omega), if_neg (by omega), w64 (by omega) (by omega), if_pos (by omega), show ((n : Int) - 1) = ((n - 1 : Nat) : Int) from by omega]
  unfold shr
  rw [Int.toNat_natCast, show min (n - 1) (IntKind.i64).bits = n - 1 from Nat.min_eq_left (by simp [IntKind.bits]; omega), ← cast_pow]
  have hd : (0 : Int) < ((2 ^ (n - 1) : Nat) : Int) := by have := Nat.two_pow_pos (n - 1); omega
  generalize hD : ((2 ^ (n - 1) : Nat) : Int) = d at *
  congr 1
  rw [Bool.eq_iff_iff, beq_iff_eq, decide_eq_true_eq]
  by_cases h0 : 0 ≤ x
  · rw [(ediv_zero (by decide : (0 : Int) < 9223372036854775808)).2 ⟨h0, hx'⟩, ediv_zero hd]; omega
  · rw [(ediv_neg_one (by decide : (0 : Int) < 9223372036854775808)).2 ⟨hx, by omega⟩, ediv_neg_one hd]; omega
theorem fits_no {x n : Int} (h : ¬(1 ≤ n ∧ n ≤ 63)) : bits_Fits.f x n = some false := by
  unfold bits_Fits.f
  by_cases h1 : n < 1
  · rw [if_pos h1]
  · rw [if_neg h1, if_pos (by omega)]

/-! ### Places -/
abbrev ints (ns : List Nat) : List Int := ns.map (fun n : Nat => (n : Int))
def OkPl (l : List Int) : Prop := (∀ x ∈ l, 0 ≤ x ∧ x ≤ 31) ∧ l.Nodup
instance (l : List Int) : Decidable (OkPl l) := by unfold OkPl; infer_instance
theorem rd_at (pre rest : List Int) (x : Int) : rd (pre ++ x :: rest) (pre.length : Int) = x := by
  unfold rd; rw [Int.toNat_natCast]; simp
theorem okpl_nat {l : List Int} (h : OkPl l) : ∃ ns : List Nat, l = ints ns ∧ (∀ p ∈ ns, p < 32) ∧ ns.Nodup := by
  refine ⟨l.map Int.toNat, ?_, ?_, ?_⟩
  · have : (l.map Int.toNat).map (fun n : Nat => (n : Int)) = l.map id := by
      rw [List.map_map]; exact List.map_congr_left fun x hx => by have := h.1 x hx; simp; omega
    rw [ints, this, List.map_id]
  · intro p hp; obtain ⟨x, hx, rfl⟩ := List.mem_map.1 hp; have := h.1 x hx; omega
  · refine List.pairwise_map.2 (List.Pairwise.imp_of_mem ?_ h.2)
    intro a b ha hb hab e
    have := h.1 a ha; have := h.1 b hb
    exact hab (by omega)
theorem okpl_ints {ns : List Nat} (h : ∀ p ∈ ns, p < 32) (hn : ns.Nodup) : OkPl (ints ns) := by
  refine ⟨fun x hx => ?_, ?_⟩
  · obtain ⟨p, hp, rfl⟩ := List.mem_map.1 hx; have := h p hp; omega
  · exact List.pairwise_map.2 (hn.imp fun hab e => hab (by omega))
theorem or_lt {a b : Nat} (ha : a < 4294967296) (hb : b < 4294967296) : a ||| b < 4294967296 := Nat.or_lt_two_pow (n := 32) ha hb
theorem asked_l0 : ∀ (rest pre : List Int) (seen k : Nat), rest.length < k → (pre ++ rest).length ≤ 32 → seen < 4294967296 → (∀ j : Nat, seen.testBit j = decide ((j : Int) ∈ pre)) →
    bits_asked.l0 k (seen : Int) (pre ++ rest) ((pre ++ rest).length : Int) (pre.length : Int) = some (if OkPl rest ∧ ∀ x ∈ rest, x ∉ pre then 0 else 2)
  | [], pre, seen, k, hk, hl, hs, hb => by
    obtain ⟨k, rfl⟩ : ∃ m, k = m + 1 := ⟨k - 1, by omega⟩
    simp only [bits_asked.l0]
    rw [if_neg (by simp)]; simp [OkPl]
  | x :: rest, pre, seen, k, hk, hl, hs, hb => by
    obtain ⟨k, rfl⟩ : ∃ m, k = m + 1 := ⟨k - 1, by omega⟩
    have hlen : pre.length < (pre ++ x :: rest).length := by simp
    simp only [bits_asked.l0]
    rw [if_pos (by omega), if_pos (by omega), if_pos (by omega), rd_at]
    by_cases h0 : x < 0
    · rw [if_pos h0]; refine congrArg some (if_neg ?_).symm; rintro ⟨⟨h, _⟩, _⟩; have := h x (by simp); omega
    rw [if_neg h0]
    by_cases h1 : x > 31
    · rw [if_pos h1]; refine congrArg some (if_neg ?_).symm; rintro ⟨⟨h, _⟩, _⟩; have := h x (by simp); omega
    rw [if_neg h1, if_pos (by omega)]
    obtain ⟨p, rfl⟩ := Int.eq_ofNat_of_zero_le (by omega : 0 ≤ x)
    have e1 : Go.bits .and .u32 (shr .u32 (seen : Int) (p : Int)) 1 = if (p : Int) ∈ pre then 1 else 0 := by
      rw [shr_u32 _ _ hs, show (1 : Int) = ((1 : Nat) : Int) from rfl, u32_and_nat _ _ (Nat.lt_of_le_of_lt (Nat.div_le_self _ _) hs) (by decide), shr_and_one, hb]
      by_cases hm : (p : Int) ∈ pre <;> simp [hm]
    rw [e1]
    by_cases hm : (p : Int) ∈ pre
    · rw [if_pos hm, if_pos rfl]; refine congrArg some (if_neg ?_).symm; rintro ⟨_, h⟩; exact h _ (by simp) hm
    rw [if_neg hm, if_neg (by decide : ¬ ((0 : Int) = 1)), show (1 : Int) = ((1 : Nat) : Int) from rfl, shl_u32, Nat.one_mul, Nat.mod_eq_of_lt (pow_lt_32 (by omega)), u32_or_nat _ _ hs (pow_lt_32 (by omega)), w64 (by simp at hl; omega) (by simp at hl; omega)]
    have key := asked_l0 rest (pre ++ [(p : Int)]) (seen ||| 2 ^ p) k (by simp at hk; omega) (by simpa using hl) (or_lt hs (pow_lt_32 (by omega))) (fun j => by
      rw [Nat.testBit_or, hb, Nat.testBit_two_pow, Bool.eq_iff_iff]; simp only [Bool.or_eq_true, decide_eq_true_eq, List.mem_append, List.mem_singleton]
      constructor
      · rintro (h | h)
        · exact .inl h
        · exact .inr (by omega)
      · rintro (h | h)
        · exact .inl h
        · exact .inr (by omega))
    simp only [List.append_assoc, List.singleton_append, List.length_append, List.length_singleton, List.length_cons, List.length_nil, Int.natCast_add] at key ⊢
    simp only [Int.natCast_one, Int.natCast_zero, Int.zero_add] at key ⊢
    rw [key]
    congr 1
    have : (OkPl rest ∧ ∀ x ∈ rest, x ∉ pre ++ [(p : Int)]) ↔ (OkPl ((p : Int) :: rest) ∧ ∀ x ∈ (p : Int) :: rest, x ∉ pre) := by
      unfold OkPl
      simp only [List.mem_append, List.mem_cons, List.not_mem_nil, or_false, List.nodup_cons, not_or, forall_eq_or_imp]
      constructor
      · rintro ⟨⟨a, b⟩, c⟩; exact ⟨⟨⟨by omega, a⟩, fun h => (c _ h).2 rfl, b⟩, hm, fun x hx => (c x hx).1⟩
      · rintro ⟨⟨⟨_, a⟩, b, c⟩, _, d⟩; exact ⟨⟨a, c⟩, fun x hx => ⟨d x hx, fun e => b (e ▸ hx)⟩⟩
    simp only [this]
theorem asked_ok (l : List Int) (k : Nat) (hk : l.length < k) : bits_asked.f k l = some (if l.length > 32 then 4 else if OkPl l then 0 else 2) := by
  unfold bits_asked.f
  by_cases h : l.length > 32
  · rw [if_pos (by omega), if_pos h]
  · rw [if_neg (by omega), if_neg h]
    have := asked_l0 l [] 0 k hk (by simp; omega) (by decide) (by simp)
    simpa using this
theorem scatter_l0 (v : Nat) (hv : v < 4294967296) : ∀ (rest pre : List Nat) (w k : Nat), rest.length < k → (pre ++ rest).length ≤ 32 → w < 4294967296 → (∀ p ∈ rest, p < 32) →
    bits_Scatter.l0 k (v : Int) (w : Int) (ints (pre ++ rest)) ((ints (pre ++ rest)).length : Int) (pre.length : Int) = some (((w ||| scat v pre.length rest : Nat) : Int), 0)
  | [], pre, w, k, hk, hl, hw, hr => by
    obtain ⟨k, rfl⟩ : ∃ m, k = m + 1 := ⟨k - 1, by omega⟩
    simp only [bits_Scatter.l0]
    rw [if_neg (by simp)]; simp [scat]
  | p :: rest, pre, w, k, hk, hl, hw, hr => by
    obtain ⟨k, rfl⟩ : ∃ m, k = m + 1 := ⟨k - 1, by omega⟩
    have hp := hr p (by simp)
    have hll : (ints (pre ++ p :: rest)).length = pre.length + (rest.length + 1) := by simp
    have hrd : rd (ints (pre ++ p :: rest)) (pre.length : Int) = (p : Int) := by
      have := rd_at (ints pre) (ints rest) (p : Int); simpa using this
    simp only [bits_Scatter.l0]
    rw [if_pos (by omega), if_pos (by omega), if_pos (by omega), hrd, if_pos (by omega)]
    rw [shr_u32 _ _ hv, show (1 : Int) = ((1 : Nat) : Int) from rfl, u32_and_nat _ _ (Nat.lt_of_le_of_lt (Nat.div_le_self _ _) hv) (by decide), shr_and_one, shl_u32]
    have e : (if v.testBit pre.length then 1 else 0) * 2 ^ p % 4294967296 = if v.testBit pre.length then 2 ^ p else 0 := by
      split
      · rw [Nat.one_mul, Nat.mod_eq_of_lt (pow_lt_32 hp)]
      · simp
    have hlt : (if v.testBit pre.length then 2 ^ p else 0) < 4294967296 := by split; exact pow_lt_32 hp; decide
    rw [e, u32_or_nat _ _ hw hlt, w64 (by simp at hl; omega) (by simp at hl; omega)]
    have key := scatter_l0 v hv rest (pre ++ [p]) (w ||| if v.testBit pre.length then 2 ^ p else 0) k (by simp at hk; omega) (by simpa using hl) (or_lt hw hlt) (fun q hq => hr q (by simp [hq]))
    simp only [List.append_assoc, List.singleton_append, List.length_append, List.length_singleton, List.length_nil, List.length_cons, Int.natCast_add, Nat.zero_add] at key ⊢
    rw [key, scat, Nat.or_assoc]
theorem gather_l0 (v : Nat) (hv : v < 4294967296) : ∀ (rest pre : List Nat) (w k : Nat), rest.length < k → (pre ++ rest).length ≤ 32 → w < 4294967296 → (∀ p ∈ rest, p < 32) →
    bits_Gather.l0 k (v : Int) (w : Int) (ints (pre ++ rest)) ((ints (pre ++ rest)).length : Int) (pre.length : Int) = some (((w ||| gath v pre.length rest : Nat) : Int), 0)
  | [], pre, w, k, hk, hl, hw, hr => by
    obtain ⟨k, rfl⟩ : ∃ m, k = m + 1 := ⟨k - 1, by omega⟩
    simp only [bits_Gather.l0]
    rw [if_neg (by simp)]; simp [gath]
  | p :: rest, pre, w, k, hk, hl, hw, hr => by
    obtain ⟨k, rfl⟩ : ∃ m, k = m + 1 := ⟨k - 1, by omega⟩
    have hp := hr p (by simp)
    have hll : (ints (pre ++ p :: rest)).length = pre.length + (rest.length + 1) := by simp
    have hpl : pre.length < 32 := by simp at hl; omega
    have hrd : rd (ints (pre ++ p :: rest)) (pre.length : Int) = (p : Int) := by
      have := rd_at (ints pre) (ints rest) (p : Int); simpa using this
    simp only [bits_Gather.l0]
    rw [if_pos (by omega), if_pos (by omega), if_pos (by omega), hrd, if_pos (by omega)]
    rw [shr_u32 _ _ hv, show (1 : Int) = ((1 : Nat) : Int) from rfl, u32_and_nat _ _ (Nat.lt_of_le_of_lt (Nat.div_le_self _ _) hv) (by decide), shr_and_one, shl_u32]
    have e : (if v.testBit p then 1 else 0) * 2 ^ pre.length % 4294967296 = if v.testBit p then 2 ^ pre.length else 0 := by
      split
      · rw [Nat.one_mul, Nat.mod_eq_of_lt (pow_lt_32 hpl)]
      · simp
    have hlt : (if v.testBit p then 2 ^ pre.length else 0) < 4294967296 := by split; exact pow_lt_32 hpl; decide
    rw [e, u32_or_nat _ _ hw hlt, w64 (by simp at hl; omega) (by simp at hl; omega)]
    have key := gather_l0 v hv rest (pre ++ [p]) (w ||| if v.testBit p then 2 ^ pre.length else 0) k (by simp at hk; omega) (by simpa using hl) (or_lt hw hlt) (fun q hq => hr q (by simp [hq]))
    simp only [List.append_assoc, List.singleton_append, List.length_append, List.length_singleton, List.length_nil, List.length_cons, Int.natCast_add, Nat.zero_add] at key ⊢
    rw [key, gath, Nat.or_assoc]
theorem scatter_ok {v : Nat} {ns : List Nat} {k : Nat} (h : ∀ p ∈ ns, p < 32) (hn : ns.Nodup) (hl : ns.length ≤ 32) (hv : v < 2 ^ ns.length) (hk : ns.length < k) :
    bits_Scatter.f k (v : Int) (ints ns) = some (((scat v 0 ns : Nat) : Int), 0) := by
  have hv' : v < 4294967296 := Nat.lt_of_lt_of_le hv (pow_le_32 hl)
  unfold bits_Scatter.f
  have hln : (ints ns).length = ns.length := by simp
  rw [asked_ok _ _ (by omega), if_neg (by omega), if_pos (okpl_ints h hn), Option.bind_some, if_pos rfl, hln, mask_ok _ hl, Option.bind_some, if_pos ((andNot_mask v _ hv' hl).2 hv)]
  have := scatter_l0 v hv' ns [] 0 k hk (by simpa using hl) (by decide) h
  simpa [hln] using this
theorem scatter_big {v : Nat} {ns : List Nat} {k : Nat} (h : ∀ p ∈ ns, p < 32) (hn : ns.Nodup) (hl : ns.length ≤ 32) (hv' : v < 4294967296) (hv : ¬ v < 2 ^ ns.length) (hk : ns.length < k) :
    bits_Scatter.f k (v : Int) (ints ns) = some (0, 2) := by
  unfold bits_Scatter.f
  have hln : (ints ns).length = ns.length := by simp
  rw [asked_ok _ _ (by omega), if_neg (by omega), if_pos (okpl_ints h hn), Option.bind_some, if_pos rfl, hln, mask_ok _ hl, Option.bind_some, if_neg (fun h => hv ((andNot_mask v _ hv' hl).1 h))]
theorem gather_ok {v : Nat} {ns : List Nat} {k : Nat} (h : ∀ p ∈ ns, p < 32) (hn : ns.Nodup) (hl : ns.length ≤ 32) (hv' : v < 4294967296) (hk : ns.length < k) :
    bits_Gather.f k (v : Int) (ints ns) = some (((gath v 0 ns : Nat) : Int), 0) := by
  unfold bits_Gather.f
  have hln : (ints ns).length = ns.length := by simp
  rw [asked_ok _ _ (by omega), if_neg (by omega), if_pos (okpl_ints h hn), Option.bind_some, if_pos rfl]
  have := gather_l0 v hv' ns [] 0 k hk (by simpa using hl) (by decide) h
  simpa [hln] using this
/-- The error of places, not 0. -/
def plErr (l : List Int) : Int := if l.length > 32 then 4 else 2
theorem scatter_no {v : Int} {l : List Int} {k : Nat} (h : ¬(l.length ≤ 32 ∧ OkPl l)) (hk : l.length < k) : bits_Scatter.f k v l = some (0, plErr l) := by
  unfold bits_Scatter.f
  have e : (if l.length > 32 then 4 else if OkPl l then 0 else 2 : Int) = plErr l := by
    unfold plErr
    by_cases h1 : l.length > 32
    · rw [if_pos h1, if_pos h1]
    · rw [if_neg h1, if_neg h1, if_neg (fun h2 => h ⟨by omega, h2⟩)]
  rw [asked_ok _ _ hk, e, Option.bind_some, if_neg (by unfold plErr; split <;> decide)]
theorem gather_no {v : Int} {l : List Int} {k : Nat} (h : ¬(l.length ≤ 32 ∧ OkPl l)) (hk : l.length < k) : bits_Gather.f k v l = some (0, plErr l) := by
  unfold bits_Gather.f
  have e : (if l.length > 32 then 4 else if OkPl l then 0 else 2 : Int) = plErr l := by
    unfold plErr
    by_cases h1 : l.length > 32
    · rw [if_pos h1, if_pos h1]
    · rw [if_neg h1, if_neg h1, if_neg (fun h2 => h ⟨by omega, h2⟩)]
  rw [asked_ok _ _ hk, e, Option.bind_some, if_neg (by unfold plErr; split <;> decide)]
end Go.Proofs.YtpijiohiohiilaaDoor.BitF
