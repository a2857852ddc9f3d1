/- What the reference quoinref01 computes with places, told in plain numbers: the same as the package bits. -/
import Derived.Test.YtpijiohiohiilaaDoorRefF
namespace Go.Proofs.YtpijiohiohiilaaDoor.RefG
set_option linter.unusedVariables false
set_option linter.unusedSimpArgs false
open Go Go.RowKit Go.Proofs.YtpijiohiohiilaaDoor.D Go.Proofs.YtpijiohiohiilaaDoorW.PrintMore Go.Proofs.YtpijiohiohiilaaDoorW.PrintWords Go.Proofs.YtpijiohiohiilaaDoor.BitL Go.Proofs.YtpijiohiohiilaaDoor.BitF Go.Proofs.YtpijiohiohiilaaDoor.RefF

theorem rasked_l1 (pre rest : List Int) (x : Int) (hl : (pre ++ x :: rest).length ≤ 1000) : ∀ (q pfx : List Int) (k : Nat), pre = pfx ++ q → q.length < k →
    quoinref01_asked.l1 k (pre ++ x :: rest) (pre.length : Int) (pfx.length : Int) = if x ∈ q then some 2 else quoinref01_asked.l0 (k - q.length - 1) (pre ++ x :: rest) ((pre.length + 1 : Nat) : Int)
  | [], pfx, k, hp, hk => by
    obtain ⟨k, rfl⟩ : ∃ m, k = m + 1 := ⟨k - 1, by omega⟩
    simp only [List.append_nil] at hp
    subst hp
    simp only [quoinref01_asked.l1]
    simp only [List.length_append, List.length_cons] at hl
    rw [if_neg (by omega), w64 (by omega) (by omega)]
    simp
  | y :: q, pfx, k, hp, hk => by
    obtain ⟨k, rfl⟩ : ∃ m, k = m + 1 := ⟨k - 1, by omega⟩
    have hlen : pre.length = pfx.length + (q.length + 1) := by rw [hp]; simp
    have hll : (pre ++ x :: rest).length = pre.length + (rest.length + 1) := by simp
    have hry : rd (pre ++ x :: rest) (pfx.length : Int) = y := by
      have := rd_at pfx (q ++ x :: rest) y; rw [hp]; simpa using this
    simp only [quoinref01_asked.l1]
    rw [if_pos (by omega), if_pos (by omega), if_pos (by omega), if_pos (by omega), if_pos (by omega), hry, rd_at]
    by_cases h : y = x
    · rw [if_pos h, if_pos (by simp [h])]
    · rw [if_neg h, w64 (by omega) (by omega)]
      have key := rasked_l1 pre rest x hl q (pfx ++ [y]) k (by rw [hp]; simp) (by simp at hk; omega)
      simp only [List.length_append, List.length_cons, List.length_nil, Nat.zero_add, Int.natCast_add, Int.natCast_one] at key ⊢
      rw [key]
      have : (x ∈ y :: q) ↔ x ∈ q := by simp [Ne.symm h]
      simp only [this]
      rw [show k + 1 - (q.length + 1) - 1 = k - q.length - 1 from by omega]
theorem rasked_l0 : ∀ (rest pre : List Int) (k : Nat), 40 * rest.length < k → (pre ++ rest).length ≤ 32 →
    quoinref01_asked.l0 k (pre ++ rest) (pre.length : Int) = some (if OkPl rest ∧ ∀ x ∈ rest, x ∉ pre then 0 else 2)
  | [], pre, k, hk, hl => by
    obtain ⟨k, rfl⟩ : ∃ m, k = m + 1 := ⟨k - 1, by omega⟩
    simp only [quoinref01_asked.l0]
    rw [if_neg (by simp)]; simp [OkPl]
  | x :: rest, pre, k, hk, hl => by
    have hk' : 40 * rest.length + 40 < k := by simp at hk; omega
    obtain ⟨k, rfl⟩ : ∃ m, k = m + 2 := ⟨k - 2, by omega⟩
    have hll : (pre ++ x :: rest).length = pre.length + (rest.length + 1) := by simp
    simp only [quoinref01_asked.l0]
    rw [if_pos (by omega), if_pos (by omega), rd_at]
    by_cases h0 : x < 0
    · rw [if_pos h0]; simp only [quoinref01_asked.j1]
      rw [if_pos trivial]; refine congrArg some (if_neg ?_).symm; rintro ⟨⟨h, _⟩, _⟩; have := h x (by simp); omega
    rw [if_neg h0]
    by_cases h1 : x > 31
    · have : decide (x > 31) = true := by simpa using h1
      rw [this]; simp only [quoinref01_asked.j1]
      rw [if_pos trivial]; refine congrArg some (if_neg ?_).symm; rintro ⟨⟨h, _⟩, _⟩; have := h x (by simp); omega
    have : decide (x > 31) = false := by simpa using h1
    rw [this]; simp only [quoinref01_asked.j1]
    rw [if_neg (by decide)]
    have k1 := rasked_l1 pre rest x (by omega) pre [] k rfl (by omega)
    simp only [List.length_nil] at k1
    refine Eq.trans k1 ?_
    by_cases hm : x ∈ pre
    · rw [if_pos hm]; refine congrArg some (if_neg ?_).symm; rintro ⟨_, h⟩; exact h _ (by simp) hm
    rw [if_neg hm]
    have key := rasked_l0 rest (pre ++ [x]) (k - pre.length - 1) (by omega) (by simpa using hl)
    simp only [List.append_assoc, List.singleton_append, List.length_append, List.length_cons, List.length_nil, Nat.zero_add] at key
    rw [key]
    congr 1
    have : (OkPl rest ∧ ∀ y ∈ rest, y ∉ pre ++ [x]) ↔ (OkPl (x :: rest) ∧ ∀ y ∈ x :: rest, y ∉ pre) := by
      unfold OkPl
      simp only [List.mem_append, List.mem_cons, List.not_mem_nil, or_false, List.nodup_cons, not_or, forall_eq_or_imp]
      constructor
      · rintro ⟨⟨a, b⟩, c⟩; exact ⟨⟨⟨by omega, a⟩, fun h => (c _ h).2 rfl, b⟩, hm, fun y hy => (c y hy).1⟩
      · rintro ⟨⟨⟨_, a⟩, b, c⟩, _, d⟩; exact ⟨⟨a, c⟩, fun y hy => ⟨d y hy, fun e => b (e ▸ hy)⟩⟩
    simp only [this]
theorem rasked_ok (l : List Int) (k : Nat) (hk : 1300 < k) : quoinref01_asked.f k l = some (if l.length > 32 then 4 else if OkPl l then 0 else 2) := by
  unfold quoinref01_asked.f
  by_cases h : l.length > 32
  · rw [if_pos (by omega), if_pos h]
  · rw [if_neg (by omega), if_neg h]
    have := rasked_l0 l [] k (by omega) (by simp; omega)
    simpa using this
theorem takeN_one (v i : Nat) : takeN v i 1 = if v.testBit i then 1 else 0 := by
  refine Nat.eq_of_testBit_eq fun j => ?_
  rw [takeN_bit]
  by_cases h : j = 0
  · subst h; cases hb : v.testBit i <;> simp [hb]
  · have hj : decide (j < 1) = false := by simp; omega
    rw [hj, Bool.false_and]
    split
    · rw [show 1 = 2 ^ 0 from rfl, Nat.testBit_two_pow]; simp; omega
    · simp
theorem rscatter_l0 (v : Nat) (hv : v < 4294967296) : ∀ (rest pre : List Nat) (w k : Nat), rest.length + 70 < k → (pre ++ rest).length ≤ 32 → w < 4294967296 → (∀ p ∈ rest, p < 32) → rest.Nodup → (∀ p ∈ rest, w.testBit p = false) →
    quoinref01_Scatter.l0 k (v : Int) (ints (pre ++ rest)) (w : Int) (pre.length : Int) = some (((w ||| scat v pre.length rest : Nat) : Int), 0)
  | [], pre, w, k, hk, hl, hw, hr, hn, hb => by
    obtain ⟨k, rfl⟩ : ∃ m, k = m + 1 := ⟨k - 1, by omega⟩
    simp only [quoinref01_Scatter.l0]
    rw [if_neg (by simp), Int.emod_eq_of_lt (by omega) (by omega)]; simp [scat]
  | p :: rest, pre, w, k, hk, hl, hw, hr, hn, hb => by
    obtain ⟨k, rfl⟩ : ∃ m, k = m + 1 := ⟨k - 1, by omega⟩
    have hp := hr p (by simp)
    have hll : (ints (pre ++ p :: rest)).length = pre.length + (rest.length + 1) := by simp
    have hln : (pre ++ p :: rest).length = pre.length + (rest.length + 1) := by simp
    have hrd : rd (ints (pre ++ p :: rest)) (pre.length : Int) = (p : Int) := by
      have := rd_at (ints pre) (ints rest) (p : Int); simpa using this
    simp only [List.length_cons] at hk
    simp only [quoinref01_Scatter.l0]
    have hpw := pow_lt_32 hp
    rw [if_pos (by omega), show (1 : Int) = ((1 : Nat) : Int) from rfl, bits_ok hv (by omega) (by omega) (by omega) (by omega), Option.bind_some, if_pos (by omega), hrd, two_ok (by omega) (by omega), Option.bind_some, takeN_one,
      w64 (x := (((if v.testBit pre.length = true then 1 else 0) : Nat) : Int)) (by split <;> decide) (by split <;> decide), ← Int.natCast_mul]
    have e : (if v.testBit pre.length then 1 else 0) * 2 ^ p = if v.testBit pre.length then 2 ^ p else 0 := by split <;> simp
    have hlt : (if v.testBit pre.length then 2 ^ p else 0) < 4294967296 := by split; exact hpw; decide
    have hs := scat_sum v p rest pre.length w (hb p (by simp))
    rw [e]
    generalize hg : (if v.testBit pre.length then 2 ^ p else 0) = g at *
    rw [w64 (x := (g : Int)) (by omega) (by omega), w64 (x := (w : Int) + _) (by omega) (by omega), w64 (by omega) (by omega), ← Int.natCast_add, hs]
    have key := rscatter_l0 v hv rest (pre ++ [p]) (w ||| g) k (by omega) (by simpa using hl) (or_lt hw hlt) (fun q hq => hr q (by simp [hq])) (List.nodup_cons.1 hn).2 (fun q hq => by
      rw [Nat.testBit_or, hb q (by simp [hq]), ← hg, ite_pow_bit]
      have : p ≠ q := fun e => (List.nodup_cons.1 hn).1 (e ▸ hq)
      simp [this])
    simp only [List.append_assoc, List.singleton_append, List.length_append, List.length_singleton, List.length_nil, List.length_cons, Int.natCast_add, Nat.zero_add] at key ⊢
    rw [key, scat, Nat.or_assoc, hg]
theorem rgather_l0 (v : Nat) (hv : v < 4294967296) : ∀ (rest pre : List Nat) (w k : Nat), rest.length + 70 < k → (pre ++ rest).length ≤ 32 → w < 2 ^ pre.length → (∀ p ∈ rest, p < 32) →
    quoinref01_Gather.l0 k (v : Int) (ints (pre ++ rest)) (w : Int) (pre.length : Int) = some (((w ||| gath v pre.length rest : Nat) : Int), 0)
  | [], pre, w, k, hk, hl, hw, hr => by
    obtain ⟨k, rfl⟩ : ∃ m, k = m + 1 := ⟨k - 1, by omega⟩
    have := pow_le_32 (n := pre.length) (by simpa using hl)
    simp only [quoinref01_Gather.l0]
    rw [if_neg (by simp), Int.emod_eq_of_lt (by omega) (by omega)]; simp [gath]
  | p :: rest, pre, w, k, hk, hl, hw, hr => by
    obtain ⟨k, rfl⟩ : ∃ m, k = m + 1 := ⟨k - 1, by omega⟩
    have hp := hr p (by simp)
    have hll : (ints (pre ++ p :: rest)).length = pre.length + (rest.length + 1) := by simp
    have hln : (pre ++ p :: rest).length = pre.length + (rest.length + 1) := by simp
    have hrd : rd (ints (pre ++ p :: rest)) (pre.length : Int) = (p : Int) := by
      have := rd_at (ints pre) (ints rest) (p : Int); simpa using this
    simp only [List.length_cons] at hk
    simp only [quoinref01_Gather.l0]
    have hpw := pow_lt_32 (n := pre.length) (by omega)
    rw [if_pos (by omega), if_pos (by omega), hrd, show (1 : Int) = ((1 : Nat) : Int) from rfl, bits_ok hv (by omega) (by omega) (by omega) (by omega), Option.bind_some, two_ok (by omega) (by omega), Option.bind_some, takeN_one,
      w64 (x := (((if v.testBit p = true then 1 else 0) : Nat) : Int)) (by split <;> decide) (by split <;> decide), ← Int.natCast_mul]
    have e : (if v.testBit p then 1 else 0) * 2 ^ pre.length = if v.testBit p then 2 ^ pre.length else 0 := by split <;> simp
    have hlt : (if v.testBit p then 2 ^ pre.length else 0) ≤ 2 ^ pre.length := by split; exact Nat.le_refl _; exact Nat.zero_le _
    have hs : w + (if v.testBit p then 2 ^ pre.length else 0) = w ||| (if v.testBit p then 2 ^ pre.length else 0) := add_eq_or fun j => by
      rw [ite_pow_bit]
      by_cases h : pre.length = j
      · subst h; simp [bit_ge hw (Nat.le_refl _)]
      · simp [h]
    rw [e]
    have hw2 : w ||| (if v.testBit p then 2 ^ pre.length else 0) < 2 ^ (pre ++ [p]).length := by
      rw [← hs, List.length_append, List.length_singleton, Nat.pow_succ]; omega
    generalize hg : (if v.testBit p then 2 ^ pre.length else 0) = g at *
    rw [w64 (x := (g : Int)) (by omega) (by omega), w64 (x := (w : Int) + _) (by omega) (by omega), w64 (by omega) (by omega), ← Int.natCast_add, hs]
    have key := rgather_l0 v hv rest (pre ++ [p]) (w ||| g) k (by omega) (by simpa using hl) hw2 (fun q hq => hr q (by simp [hq]))
    simp only [List.append_assoc, List.singleton_append, List.length_append, List.length_singleton, List.length_nil, List.length_cons, Int.natCast_add, Nat.zero_add] at key ⊢
    rw [key, gath, Nat.or_assoc, hg]
theorem rscatter_ok {v : Nat} {ns : List Nat} {k : Nat} (h : ∀ p ∈ ns, p < 32) (hn : ns.Nodup) (hl : ns.length ≤ 32) (hv : v < 2 ^ ns.length) (hk : 1300 < k) :
    quoinref01_Scatter.f k (v : Int) (ints ns) = some (((scat v 0 ns : Nat) : Int), 0) := by
  have hp := pow_le_32 hl
  have hv' : v < 4294967296 := Nat.lt_of_lt_of_le hv hp
  unfold quoinref01_Scatter.f
  have hln : (ints ns).length = ns.length := by simp
  rw [rasked_ok _ _ hk, if_neg (by omega), if_pos (okpl_ints h hn), Option.bind_some, if_pos rfl, hln, two_ok (by omega) (by omega), Option.bind_some, w64 (by omega) (by omega), if_neg (by omega)]
  have := rscatter_l0 v hv' ns [] 0 k (by omega) (by simpa using hl) (by decide) h hn (by simp)
  simpa using this
theorem rscatter_big {v : Nat} {ns : List Nat} {k : Nat} (h : ∀ p ∈ ns, p < 32) (hn : ns.Nodup) (hl : ns.length ≤ 32) (hv' : v < 4294967296) (hv : ¬ v < 2 ^ ns.length) (hk : 1300 < k) :
    quoinref01_Scatter.f k (v : Int) (ints ns) = some (0, 2) := by
  have hp := pow_le_32 hl
  unfold quoinref01_Scatter.f
  have hln : (ints ns).length = ns.length := by simp
  rw [rasked_ok _ _ hk, if_neg (by omega), if_pos (okpl_ints h hn), Option.bind_some, if_pos rfl, hln, two_ok (by omega) (by omega), Option.bind_some, w64 (by omega) (by omega), if_pos (by omega)]
theorem rgather_ok {v : Nat} {ns : List Nat} {k : Nat} (h : ∀ p ∈ ns, p < 32) (hn : ns.Nodup) (hl : ns.length ≤ 32) (hv' : v < 4294967296) (hk : 1300 < k) :
    quoinref01_Gather.f k (v : Int) (ints ns) = some (((gath v 0 ns : Nat) : Int), 0) := by
  unfold quoinref01_Gather.f
  have hln : (ints ns).length = ns.length := by simp
  rw [rasked_ok _ _ hk, if_neg (by omega), if_pos (okpl_ints h hn), Option.bind_some, if_pos rfl]
  have := rgather_l0 v hv' ns [] 0 k (by omega) (by simpa using hl) (by decide) h
  simpa using this
theorem plErr_eq {l : List Int} (h : ¬(l.length ≤ 32 ∧ OkPl l)) : (if l.length > 32 then 4 else if OkPl l then 0 else 2 : Int) = plErr l := by
  unfold plErr
  by_cases h1 : l.length > 32
  · rw [if_pos h1, if_pos h1]
  · rw [if_neg h1, if_neg h1, if_neg (fun h2 => h ⟨by omega, h2⟩)]
theorem rscatter_no {v : Int} {l : List Int} {k : Nat} (h : ¬(l.length ≤ 32 ∧ OkPl l)) (hk : 1300 < k) : quoinref01_Scatter.f k v l = some (0, plErr l) := by
  unfold quoinref01_Scatter.f
  rw [rasked_ok _ _ hk, plErr_eq h, Option.bind_some, if_neg (by unfold plErr; split <;> decide)]
theorem rgather_no {v : Int} {l : List Int} {k : Nat} (h : ¬(l.length ≤ 32 ∧ OkPl l)) (hk : 1300 < k) : quoinref01_Gather.f k v l = some (0, plErr l) := by
  unfold quoinref01_Gather.f
  rw [rasked_ok _ _ hk, plErr_eq h, Option.bind_some, if_neg (by unfold plErr; split <;> decide)]
end Go.Proofs.YtpijiohiohiilaaDoor.RefG
