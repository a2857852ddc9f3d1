/- DecFixed, the plain law: the fixed bits of an instruction's word are its own, and one turned makes another word or none. No condition. -/
import Derived.Test.YtpijiohiohiilaaDoorDDecFixed
import Derived.Test.YtpijiohiohiilaaDoorDecG
import Derived.Test.YtpijiohiohiilaaDoorWf
namespace Go.Proofs.YtpijiohiohiilaaDoor.Pure
set_option linter.unusedVariables false
open Go Go.RowKit Go.Proofs.YtpijiohiohiilaaDoor.D Go.Proofs.YtpijiohiohiilaaDoor.InsnF Go.Proofs.YtpijiohiohiilaaDoor.CheckF Go.Proofs.YtpijiohiohiilaaDoor.BitL Go.Proofs.YtpijiohiohiilaaDoor.BitF Go.Proofs.YtpijiohiohiilaaDoor.EncF Go.Proofs.YtpijiohiohiilaaDoor.DecF Go.Proofs.YtpijiohiohiilaaDoorW.PrintWords Go.Proofs.YtpijiohiohiilaaDoorW.PrintMore
theorem alive4f : ∀ k, 300 ≤ k → quoinlaw04_alive.f k = some true := up quoinlaw04_alive.mono (by decide +kernel)
theorem DecFixed : ∀ (a0_0 a0_1 a0_2 a0_3 a0_4 : Int) (a1 : Int), (Lit.int .u8 a0_0).wf = true → (Lit.int .i64 a0_1).wf = true → (Lit.int .i64 a0_2).wf = true → (Lit.int .i64 a0_3).wf = true → (Lit.int .i64 a0_4).wf = true → (Lit.int .u8 a1).wf = true → ∃ k, quoinlaw04_DecFixed.f k a0_0 a0_1 a0_2 a0_3 a0_4 a1 = some true := by
  intro i0 i1 i2 i3 i4 a1 w0 _ _ _ w4 w5
  obtain ⟨c0, c0'⟩ := Wf.u8 w0
  obtain ⟨d0, d0'⟩ := Wf.i64 w4
  obtain ⟨e0, e0'⟩ := Wf.u8 w5
  obtain ⟨op, rfl⟩ := Int.eq_ofNat_of_zero_le c0
  obtain ⟨a, rfl⟩ := Int.eq_ofNat_of_zero_le e0
  refine ⟨500, ?_⟩
  unfold quoinlaw04_DecFixed.f
  rw [alive4f 500 (by decide), Option.bind_some, word_tells (by omega) _ _ _ _ d0 d0' (by decide), Option.bind_some]
  by_cases hm : mayB op i1 i2 i3 i4 = true
  · obtain ⟨hW, m2, m3⟩ := dec_enc hm
    obtain ⟨_, _, _, _, _, _, _, _, _, _, _, _, h1, h2, _⟩ := may_parts hm
    have ho : op < 256 := by omega
    have hin := form_in op ho
    have h0 : formN op ≠ 0 := fun e => (form_zero op ho).1 e ⟨h1, h2⟩
    have hfx := up (dec_Fixed.mono _) (fix_tells _ hin h0) 499 (by decide)
    have hfl := fix_lt _ hin
    rw [if_pos hm]
    simp only []
    rw [if_pos trivial]
    simp only [Bool.not_true]
    generalize wordN op i1.toNat i2.toNat i3.toNat i4 = W at *
    have hW3 : W &&& 3 = 3 := by
      have e := low_two op (by omega) h1
      rw [← m2, Nat.and_assoc, Nat.and_comm (fixN _) 3, ← Nat.and_assoc] at e
      refine Nat.eq_of_testBit_eq fun j => ?_
      have ej := congrArg (fun x => x.testBit j) e
      simp only [Nat.testBit_and] at ej ⊢
      revert ej
      cases W.testBit j <;> cases Nat.testBit 3 j <;> simp
    have hmod : Int.tmod (a : Int) 32 = ((a % 32 : Nat) : Int) := rfl
    have hn : a % 32 < 32 := Nat.mod_lt _ (by decide)
    have hsh : shl .u32 1 (Int.tmod (a : Int) 32) = ((2 ^ (a % 32) : Nat) : Int) := by
      rw [hmod, show (1 : Int) = ((1 : Nat) : Int) from rfl, shl_u32, Nat.one_mul, Nat.mod_eq_of_lt (pow_lt_32 hn)]
    have hp := pow_lt_32 hn
    have hX : W ^^^ 2 ^ (a % 32) < 4294967296 := Nat.xor_lt_two_pow (n := 32) hW hp
    have hxor : Go.bits .xor .u32 (W : Int) ((2 ^ (a % 32) : Nat) : Int) = ((W ^^^ 2 ^ (a % 32) : Nat) : Int) := u32_xor_nat _ _ hW hp
    simp only [quoinlaw04_DecFixed.j0]
    rw [if_neg (by decide), form_tells op ho, Option.bind_some]
    simp only []
    rw [hfx, Option.bind_some, base_tells op ho, Option.bind_some, if_pos (⟨h1, h2⟩ : 1 ≤ op ∧ op ≤ 94), if_pos (⟨h1, h2⟩ : 1 ≤ op ∧ op ≤ 94)]
    simp only []
    rw [if_pos trivial, if_pos trivial, if_pos trivial, u32_and_nat _ _ hW hfl, u32_and_nat _ _ (base_lt op (by omega)) hfl, show W &&& fixN (formN op) = baseN op from m2, base_fix op (by omega) h1, if_pos rfl,
      show (3 : Int) = ((3 : Nat) : Int) from rfl, u32_and_nat _ _ hW (by decide), hW3, if_pos rfl, if_pos (by rw [hmod]; omega), hsh, hxor, u32_and_nat _ _ hfl hp]
    have key : (fixN (formN op)) &&& 2 ^ (a % 32) ≠ 0 → ¬ hits (W ^^^ 2 ^ (a % 32)) op := by
      intro hz hh
      have hb : (fixN (formN op)).testBit (a % 32) = true := by
        cases hq : (fixN (formN op)).testBit (a % 32) with
        | true => rfl
        | false =>
          refine absurd (Nat.eq_of_testBit_eq fun j => ?_) hz
          rw [Nat.testBit_and, Nat.testBit_two_pow, Nat.zero_testBit]
          by_cases e : a % 32 = j
          · subst e; rw [hq]; rfl
          · simp [e]
      have e1 := congrArg (fun x => x.testBit (a % 32)) (hh.trans m2.symm)
      simp only [Nat.testBit_and, hb, Bool.and_true, Nat.testBit_xor, Nat.testBit_two_pow, decide_true] at e1
      revert e1
      cases W.testBit (a % 32) <;> simp
    rcases insn_cases (W ^^^ 2 ^ (a % 32)) with ⟨o, g1, g2, hh⟩ | h
    · rw [insn_hit hX g1 g2 hh (by decide), Option.bind_some]
      by_cases hz : (fixN (formN op)) &&& 2 ^ (a % 32) = 0
      · rw [if_pos (by rw [hz]; rfl)]
      · rw [if_neg (show ¬ ((fixN (formN op) &&& 2 ^ (a % 32) : Nat) : Int) = 0 from fun e => hz (Int.ofNat.inj e))]
        unfold ansN
        simp only []
        rw [if_pos trivial]
        have : o ≠ op := fun e => key hz (e ▸ hh)
        have : ((o : Int) != (op : Int)) = true := by rw [bne_iff_ne]; omega
        rw [this]
    · rw [insn_none hX h (by decide), Option.bind_some]
      by_cases hz : (fixN (formN op)) &&& 2 ^ (a % 32) = 0
      · rw [if_pos (by rw [hz]; rfl)]
      · rw [if_neg (show ¬ ((fixN (formN op) &&& 2 ^ (a % 32) : Nat) : Int) = 0 from fun e => hz (Int.ofNat.inj e))]
        rfl
  · rw [if_neg hm]
    simp only []
    rw [if_neg (by decide)]
    rfl
end Go.Proofs.YtpijiohiohiilaaDoor.Pure
