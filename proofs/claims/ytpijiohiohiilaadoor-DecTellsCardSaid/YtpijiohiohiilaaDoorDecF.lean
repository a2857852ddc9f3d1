/- What the package dec computes, told in plain numbers: which instruction a word is, and its fields. -/
import Derived.Test.YtpijiohiohiilaaDoorGDin
import Derived.Test.YtpijiohiohiilaaDoorFormB
namespace Go.Proofs.YtpijiohiohiilaaDoor.DecF
set_option linter.unusedVariables false
set_option linter.unusedSimpArgs false
set_option maxRecDepth 100000
open Go Go.RowKit Go.Proofs.YtpijiohiohiilaaDoor.D Go.Proofs.YtpijiohiohiilaaDoor.InsnF Go.Proofs.YtpijiohiohiilaaDoor.CheckF Go.Proofs.YtpijiohiohiilaaDoor.BitL Go.Proofs.YtpijiohiohiilaaDoor.BitF Go.Proofs.YtpijiohiohiilaaDoor.EncF Go.Proofs.YtpijiohiohiilaaDoorW.PrintWords Go.Proofs.YtpijiohiohiilaaDoorW.PrintMore
def posN (c : Nat) : Int × Int × Int := (if (regs c).1 then 7 else -1, if (regs c).2.1 then 15 else -1, if (regs c).2.2 then 20 else -1)
theorem fix_tells : ∀ c ∈ formsL, c ≠ 0 → dec_Fixed.f 80 (c : Int) = some ((fixN c : Int), 0) := by
  intro c hc h0
  simp only [formsL, List.mem_cons, List.not_mem_nil, or_false] at hc
  rcases hc with rfl | rfl | rfl | rfl | rfl | rfl | rfl | rfl | rfl | rfl | rfl | rfl | rfl | rfl | rfl | rfl
  · exact absurd rfl h0
  all_goals decide +kernel
theorem pos_tells : ∀ c ∈ formsL, dec_registers.f 20 (c : Int) = some (posN c) := by decide +kernel
theorem numberD_tells {c w : Nat} (hc : c ∈ formsL) (h0 : c ≠ 0) (hw : w < 4294967296) {k : Nat} (hk : 100 ≤ k) : dec_number.f k (c : Int) (w : Int) = some (numN c w) := by
  obtain ⟨hnd, hlt, hlen⟩ := places_ok _ hc
  have hpl := up (enc_Places.mono _) (places_tells _ hc h0) k (by omega)
  have hll : (ints (placesN c)).length = (placesN c).length := by simp
  have hg := gath_lt w (placesN c) 0
  rw [Nat.zero_add] at hg
  have hg32 : gath w 0 (placesN c) < 4294967296 := Nat.lt_of_lt_of_le hg (pow_le_32 (by omega))
  unfold dec_number.f
  rw [hpl, Option.bind_some]
  simp only []
  rw [gather_ok hlt hnd (by omega) hw (by omega), Option.bind_some]
  simp only []
  obtain ⟨k, rfl⟩ : ∃ m, k = m + 1 := ⟨k - 1, by omega⟩
  have hs : 1 ≤ (placesN c).length → bits_Sign.f ((gath w 0 (placesN c) : Nat) : Int) (((ints (placesN c)).length : Nat) : Int) = some (sgn (gath w 0 (placesN c)) (placesN c).length, 0) := by
    intro h1
    rw [hll]
    exact sign_ok h1 (by omega) hg
  have hr := sgn_range (by omega : (placesN c).length ≤ 32) hg
  unfold numN numV
  by_cases h73 : c = 73
  · have h1 : 1 ≤ (placesN c).length := by rw [h73]; decide
    rw [if_pos (by omega), if_pos (Or.inl h73)]
    simp only [dec_number.j0]
    rw [if_pos (by rw [h73]; rfl), hs h1, Option.bind_some]
  rw [if_neg (by omega)]
  by_cases h76 : c = 76
  · have h1 : 1 ≤ (placesN c).length := by rw [h76]; decide
    rw [if_pos (by omega), if_pos (Or.inr (Or.inl h76))]
    simp only [dec_number.j0]
    rw [if_pos (by rw [h76]; rfl), hs h1, Option.bind_some]
  rw [if_neg (by omega)]
  by_cases h83 : c = 83
  · have h1 : 1 ≤ (placesN c).length := by rw [h83]; decide
    rw [if_pos (Or.inr (Or.inr h83))]
    simp only [dec_number.j0]
    rw [if_pos (by rw [h83]; rfl), hs h1, Option.bind_some]
  have e83 : ((c : Int) == 83) = false := by rw [beq_eq_false_iff_ne]; omega
  rw [if_neg (by omega : ¬(c = 73 ∨ c = 76 ∨ c = 83)), e83]
  simp only [dec_number.j0]
  rw [if_neg (by decide)]
  by_cases h74 : c = 74
  · have h1 : 1 ≤ (placesN c).length := by rw [h74]; decide
    rw [if_pos (by omega), if_pos (Or.inl h74), hs h1, Option.bind_some, BitF.w64 (by omega) (by omega)]
  rw [if_neg (by omega)]
  by_cases h66 : c = 66
  · have h1 : 1 ≤ (placesN c).length := by rw [h66]; decide
    rw [if_pos (by omega), if_pos (Or.inr h66), hs h1, Option.bind_some, BitF.w64 (by omega) (by omega)]
  rw [if_neg (by omega), if_neg (by omega), BitF.w64 (by omega) (by omega)]
theorem fld1_tells (b : Bool) {p w : Nat} (hw : w < 4294967296) : fld1 (if b then (p : Int) else -1) (w : Int) = ((regN b p w : Nat) : Int) := by
  unfold fld1 regN
  cases b with
  | false => rfl
  | true =>
    rw [if_pos rfl, if_pos (by omega), if_pos rfl, shr_u32 w p hw, show (31 : Int) = ((2 ^ 5 - 1 : Nat) : Int) from rfl,
      u32_and_nat _ _ (Nat.lt_of_le_of_lt (Nat.div_le_self _ _) hw) (by decide), Nat.and_two_pow_sub_one_eq_mod]
    have : w / 2 ^ p % 2 ^ 5 < 2 ^ 5 := Nat.mod_lt _ (by decide)
    rw [BitF.w64 (by omega) (by omega)]
    rfl
theorem fields_tells {op w : Nat} (h1 : 1 ≤ op) (h2 : op ≤ 94) (hw : w < 4294967296) {k : Nat} (hk : 100 ≤ k) :
    dec_fields.f k (op : Int) (formN op : Int) (w : Int) = some ((op : Int), ((regN (regs (formN op)).1 7 w : Nat) : Int), ((regN (regs (formN op)).2.1 15 w : Nat) : Int), ((regN (regs (formN op)).2.2 20 w : Nat) : Int), numN (formN op) w) := by
  have ho : op < 256 := by omega
  have h0 : formN op ≠ 0 := fun e => (form_zero op ho).1 e ⟨h1, h2⟩
  have hp := up (dec_registers.mono _) (pos_tells _ (form_in op ho)) k (by omega)
  unfold dec_fields.f
  rw [numberD_tells (form_in op ho) h0 hw hk, Option.bind_some, hp, Option.bind_some]
  have e1 := fld1_tells (regs (formN op)).1 (p := 7) hw
  have e2 := fld1_tells (regs (formN op)).2.1 (p := 15) hw
  have e3 := fld1_tells (regs (formN op)).2.2 (p := 20) hw
  unfold posN
  simp only []
  rw [← e1, ← e2, ← e3]
  rfl
theorem insn_step {w n k : Nat} (hw : w < 4294967296) (hn : n < 94) (hk : 200 ≤ k) :
    dec_Insn.l0 (k + 1) (w : Int) (n : Int) = if hits w (n + 1) then some (ansN (n + 1) w) else dec_Insn.l0 k (w : Int) (((n + 1 : Nat)) : Int) := by
  have ho : n + 1 < 256 := by omega
  have h0 : formN (n + 1) ≠ 0 := fun e => (form_zero (n + 1) ho).1 e ⟨by omega, by omega⟩
  have hin := form_in (n + 1) ho
  have e1 : wrap64 ((n : Int) + 1) = ((n + 1 : Nat) : Int) := by rw [BitF.w64 (by omega) (by omega)]; rfl
  have e2 : ((n + 1 : Nat) : Int) % 256 = ((n + 1 : Nat) : Int) := Int.emod_eq_of_lt (by omega) (by omega)
  have hfx := up (dec_Fixed.mono _) (fix_tells _ hin h0) k (by omega)
  have hfl := fields_tells (op := n + 1) (by omega) (by omega) hw (k := k) (by omega)
  simp only [dec_Insn.l0]
  rw [if_pos (by omega), e1, e2, form_tells _ ho, Option.bind_some, base_tells _ ho, Option.bind_some]
  simp only []
  rw [hfx, Option.bind_some, if_pos (by omega : 1 ≤ n + 1 ∧ n + 1 ≤ 94)]
  simp only []
  rw [u32_and_nat _ _ hw (fix_lt _ hin), hfl, Option.bind_some]
  simp only []
  rw [if_neg (by omega : ¬ ((n + 1 : Nat) : Int) = 0)]
  by_cases h : hits w (n + 1)
  · have h' : w &&& fixN (formN (n + 1)) = baseN (n + 1) := h
    rw [if_pos (congrArg (fun x : Nat => (x : Int)) h'), if_pos h]
    rfl
  · have h' : ¬ ((w &&& fixN (formN (n + 1)) : Nat) : Int) = ((baseN (n + 1) : Nat) : Int) := fun e => h (Int.ofNat.inj e)
    rw [if_neg h', if_neg h]
theorem insn_none_l {w : Nat} (hw : w < 4294967296) : ∀ m n k : Nat, n + m = 94 → 201 + m ≤ k → (∀ op, n < op → op ≤ 94 → ¬ hits w op) → dec_Insn.l0 k (w : Int) (n : Int) = some (0, 0, 0, 0, 0, 40)
  | 0, n, k, hm, hk, h => by
    obtain ⟨k, rfl⟩ : ∃ m, k = m + 1 := ⟨k - 1, by omega⟩
    simp only [dec_Insn.l0]
    rw [if_neg (by omega)]
  | m + 1, n, k, hm, hk, h => by
    obtain ⟨k, rfl⟩ : ∃ m, k = m + 1 := ⟨k - 1, by omega⟩
    rw [insn_step hw (by omega) (by omega), if_neg (h (n + 1) (by omega) (by omega))]
    exact insn_none_l hw m (n + 1) k (by omega) (by omega) fun op a b => h op (by omega) b
theorem insn_hit_l {w op : Nat} (hw : w < 4294967296) (ho : op ≤ 94) (hh : hits w op) : ∀ m n k : Nat, n + m + 1 = op → 201 + m ≤ k → (∀ o, n < o → o < op → ¬ hits w o) → dec_Insn.l0 k (w : Int) (n : Int) = some (ansN op w)
  | 0, n, k, hm, hk, h => by
    obtain ⟨k, rfl⟩ : ∃ m, k = m + 1 := ⟨k - 1, by omega⟩
    obtain rfl : op = n + 1 := by omega
    rw [insn_step hw (by omega) (by omega), if_pos hh]
  | m + 1, n, k, hm, hk, h => by
    obtain ⟨k, rfl⟩ : ∃ m, k = m + 1 := ⟨k - 1, by omega⟩
    rw [insn_step hw (by omega) (by omega), if_neg (h (n + 1) (by omega) (by omega))]
    exact insn_hit_l hw ho hh m (n + 1) k (by omega) (by omega) fun o a b => h o (by omega) b
theorem insn_hit {w op : Nat} (hw : w < 4294967296) (h1 : 1 ≤ op) (h2 : op ≤ 94) (hh : hits w op) {k : Nat} (hk : 300 ≤ k) : dec_Insn.f k (w : Int) = some (ansN op w) :=
  insn_hit_l hw h2 hh (op - 1) 0 k (by omega) (by omega) fun o a b e => by have := hits_one h1 h2 a (by omega) hh e; omega
theorem insn_none {w : Nat} (hw : w < 4294967296) (h : ∀ op, 1 ≤ op → op ≤ 94 → ¬ hits w op) {k : Nat} (hk : 300 ≤ k) : dec_Insn.f k (w : Int) = some (0, 0, 0, 0, 0, 40) :=
  insn_none_l hw 94 0 k (by omega) (by omega) fun op a b => h op a b
end Go.Proofs.YtpijiohiohiilaaDoor.DecF
