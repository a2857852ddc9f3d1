/- BitsBack, the plain law: what was scattered is gathered, and what is gathered, scattered, is the word's bits at these places. No condition. -/
import Derived.Test.YtpijiohiohiilaaBBitsBack
import Derived.Test.YtpijiohiohiilaaBitF
import Derived.Test.YtpijiohiohiilaaWf
namespace Go.Proofs.Ytpijiohiohiilaa.Pure
set_option linter.unusedVariables false
set_option linter.unusedSimpArgs false
open Go Go.RowKit Go.Proofs.Ytpijiohiohiilaa.B Go.Proofs.YtpijiohiohiilaaW.PrintWords Go.Proofs.YtpijiohiohiilaaW.PrintLast Go.Proofs.YtpijiohiohiilaaW.PrintMore Go.Proofs.Ytpijiohiohiilaa.BitL Go.Proofs.Ytpijiohiohiilaa.BitF
theorem alive_true2 : quoinlaw01_alive.f = some true := by decide +kernel
def orm : List Nat → Nat
  | [] => 0
  | p :: ps => 2 ^ p ||| orm ps
theorem orm_bit (j : Nat) : ∀ ps : List Nat, (orm ps).testBit j = decide (j ∈ ps)
  | [] => by simp [orm]
  | p :: ps => by
    rw [orm, Nat.testBit_or, orm_bit j ps, Nat.testBit_two_pow, Bool.eq_iff_iff]
    simp only [Bool.or_eq_true, decide_eq_true_eq, List.mem_cons]
    constructor
    · rintro (h | h)
      · exact .inl h.symm
      · exact .inr h
    · rintro (h | h)
      · exact .inl h.symm
      · exact .inr h
theorem back_l0 (w : Nat) (d : Int) (hw : w < 4294967296) : ∀ (rest pre : List Nat) (all k : Nat), rest.length < k → (pre ++ rest).length ≤ 32 → all < 4294967296 → (∀ p ∈ rest, p < 32) →
    quoinlaw01_BitsBack.l0 k (w : Int) (ints (pre ++ rest)) d 0 (all : Int) (pre.length : Int) = some (d == (((w &&& (all ||| orm rest)) : Nat) : Int))
  | [], pre, all, k, hk, hl, ha, hr => by
    obtain ⟨k, rfl⟩ : ∃ m, k = m + 1 := ⟨k - 1, by omega⟩
    simp only [quoinlaw01_BitsBack.l0]
    rw [if_neg (by simp), if_pos trivial, u32_and_nat _ _ hw ha]; simp [orm]
  | p :: rest, pre, all, k, hk, hl, ha, hr => by
    obtain ⟨k, rfl⟩ : ∃ m, k = m + 1 := ⟨k - 1, by omega⟩
    have hp := hr p (by simp)
    have hll : (ints (pre ++ p :: rest)).length = pre.length + (rest.length + 1) := by simp
    have hrd : rd (ints (pre ++ p :: rest)) (pre.length : Int) = (p : Int) := by
      have := rd_at (ints pre) (ints rest) (p : Int); simpa using this
    simp only [quoinlaw01_BitsBack.l0]
    rw [if_pos (by omega), if_pos (by omega), hrd, if_pos (by omega), show (1 : Int) = ((1 : Nat) : Int) from rfl, shl_u32, Nat.one_mul, Nat.mod_eq_of_lt (pow_lt_32 hp), u32_or_nat _ _ ha (pow_lt_32 hp), w64 (by simp at hl; omega) (by simp at hl; omega)]
    have key := back_l0 w d hw rest (pre ++ [p]) (all ||| 2 ^ p) k (by simp at hk; omega) (by simpa using hl) (or_lt ha (pow_lt_32 hp)) (fun q hq => hr q (by simp [hq]))
    simp only [List.append_assoc, List.singleton_append, List.length_append, List.length_singleton, List.length_nil, List.length_cons, Int.natCast_add, Nat.zero_add] at key ⊢
    rw [key, orm, Nat.or_assoc]
theorem back_j1 (w : Nat) (hw : w < 4294967296) (l : List Int) (k : Nat) (hk : l.length + 1 < k) : quoinlaw01_BitsBack.j1 k (w : Int) l = some true := by
  obtain ⟨k, rfl⟩ : ∃ m, k = m + 1 := ⟨k - 1, by omega⟩
  simp only [quoinlaw01_BitsBack.j1]
  by_cases ho : l.length ≤ 32 ∧ OkPl l
  · obtain ⟨ns, rfl, hlt, hn⟩ := okpl_nat ho.2
    have hl : ns.length ≤ 32 := by have := ho.1; simpa using this
    have hll : (ints ns).length = ns.length := by simp
    rw [gather_ok hlt hn hl hw (by omega), Option.bind_some, if_pos rfl, scatter_ok hlt hn hl (by have := gath_lt w ns 0; simpa using this) (by omega), Option.bind_some]
    have := back_l0 w ((scat (gath w 0 ns) 0 ns : Nat) : Int) hw ns [] 0 k (by omega) (by simpa using hl) (by decide) hlt
    simp only [List.nil_append, List.length_nil] at this
    refine this.trans ?_
    congr 1
    rw [beq_iff_eq, Nat.zero_or]
    have : scat (gath w 0 ns) 0 ns = w &&& orm ns := Nat.eq_of_testBit_eq fun j => by
      rw [scat_gath, Nat.testBit_and, orm_bit, Bool.and_comm]
    rw [this]
  · rw [gather_no ho (by omega), Option.bind_some, if_neg (by unfold plErr; split <;> decide)]; simp
theorem BitsBack : quoinlaw01_BitsBack.Pure := by
  intro a0 a1 l w0 w1 _ _ _
  obtain ⟨b0, b0'⟩ := Wf.u32 w0
  obtain ⟨b3, b3'⟩ := Wf.u32 w1
  obtain ⟨w, rfl⟩ := Int.eq_ofNat_of_zero_le b0
  obtain ⟨v, rfl⟩ := Int.eq_ofNat_of_zero_le b3
  refine ⟨200, ?_⟩
  unfold quoinlaw01_BitsBack.f
  rw [alive_true2, Option.bind_some]
  by_cases hlen : (l.length : Int) > 100
  · rw [if_pos hlen]; simp [quoinlaw01_BitsBack.j0]
  rw [if_neg hlen]
  simp only [quoinlaw01_BitsBack.j0, Bool.not_true]
  rw [if_neg (by decide)]
  by_cases ho : l.length ≤ 32 ∧ OkPl l
  · obtain ⟨ns, rfl, hlt, hn⟩ := okpl_nat ho.2
    have hl : ns.length ≤ 32 := by have := ho.1; simpa using this
    have hll : (ints ns).length = ns.length := by simp
    by_cases hv : v < 2 ^ ns.length
    · rw [scatter_ok hlt hn hl hv (by omega), Option.bind_some, if_pos rfl, gather_ok hlt hn hl (scat_lt v (n := 32) ns 0 hlt) (by omega), Option.bind_some, if_pos rfl, gath_scat hn hv, if_pos rfl]
      exact back_j1 w (by omega) _ _ (by omega)
    · rw [scatter_big hlt hn hl (by omega) hv (by omega), Option.bind_some, if_neg (by decide)]
      exact back_j1 w (by omega) _ _ (by omega)
  · rw [scatter_no ho (by omega), Option.bind_some, if_neg (by unfold plErr; split <;> decide)]
    exact back_j1 w (by omega) _ _ (by omega)
end Go.Proofs.Ytpijiohiohiilaa.Pure
