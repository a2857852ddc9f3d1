/- What the package dec computes, told in plain numbers: which instruction a word is, its fields; what is encoded is decoded, and what is decoded is encoded. -/
import Derived.Test.YtpijiohiohiilaaDoorGDin
import Derived.Test.YtpijiohiohiilaaDoorEncF
namespace Go.Proofs.YtpijiohiohiilaaDoor.DecF
set_option linter.unusedVariables false
set_option linter.unusedSimpArgs false
set_option maxRecDepth 100000
open Go Go.RowKit Go.Proofs.YtpijiohiohiilaaDoor.D Go.Proofs.YtpijiohiohiilaaDoor.InsnF Go.Proofs.YtpijiohiohiilaaDoor.CheckF Go.Proofs.YtpijiohiohiilaaDoor.BitL Go.Proofs.YtpijiohiohiilaaDoor.BitF Go.Proofs.YtpijiohiohiilaaDoor.EncF Go.Proofs.YtpijiohiohiilaaDoorW.PrintWords Go.Proofs.YtpijiohiohiilaaDoorW.PrintMore
/-- The bits that a form leaves fixed. -/
def fixN : Nat → Nat
  | 85 => 127 | 74 => 127 | 66 => 28799 | 73 => 28799 | 76 => 28799 | 83 => 28799 | 54 => 4227887231 | 53 => 4261441663 | 82 => 4261441663
  | 70 => 4027580415 | 78 => 4294967295 | 67 => 28799 | 90 => 28799 | 108 => 4193284223 | 65 => 4160778367 | _ => 0
def posN (c : Nat) : Int × Int × Int := (if (regs c).1 then 7 else -1, if (regs c).2.1 then 15 else -1, if (regs c).2.2 then 20 else -1)
theorem fix_tells : ∀ c ∈ formsL, c ≠ 0 → dec_Fixed.f 80 (c : Int) = some ((fixN c : Int), 0) := by
  intro c hc h0
  simp only [formsL, List.mem_cons, List.not_mem_nil, or_false] at hc
  rcases hc with rfl | rfl | rfl | rfl | rfl | rfl | rfl | rfl | rfl | rfl | rfl | rfl | rfl | rfl | rfl | rfl
  · exact absurd rfl h0
  all_goals decide +kernel
theorem pos_tells : ∀ c ∈ formsL, dec_registers.f 20 (c : Int) = some (posN c) := by decide +kernel
theorem fix_lt : ∀ c ∈ formsL, fixN c < 4294967296 := by decide +kernel
/-- A number from its bits. -/
def numV (c v : Nat) : Int := if c = 73 ∨ c = 76 ∨ c = 83 then sgn v (placesN c).length else if c = 74 ∨ c = 66 then 2 * sgn v (placesN c).length else (v : Int)
def numN (c w : Nat) : Int := numV c (gath w 0 (placesN c))
theorem sgn_range {v n : Nat} (hn : n ≤ 32) (hv : v < 2 ^ n) : -4294967296 ≤ sgn v n ∧ sgn v n < 4294967296 := by
  have := pow_le_32 hn
  unfold sgn
  rw [← cast_pow n]
  split <;> omega
theorem numberD_tells {c w : Nat} (hc : c ∈ formsL) (h0 : c ≠ 0) (hw : w < 4294967296) {k : Nat} (hk : 100 ≤ k) : dec_number.f k (c : Int) (w : Int) = some (numN c w) := by
  obtain ⟨hnd, hlt, hlen⟩ := places_ok _ hc
  have hpl := up (enc_Places.mono _) (places_tells _ hc h0) k (by omega)
  have hll : (ints (placesN c)).length = (placesN c).length := by simp
  have hg := gath_lt w (placesN c) 0
  rw [Nat.zero_add] at hg
  have hg32 : gath w 0 (placesN c) < 4294967296 := Nat.lt_of_lt_of_le hg (pow_le_32 (by omega))
  unfold dec_number.f
  rw [hpl, Option.bind_some]
  simp only []
  rw [gather_ok hlt hnd (by omega) hw (by omega), Option.bind_some]
  simp only []
  obtain ⟨k, rfl⟩ : ∃ m, k = m + 1 := ⟨k - 1, by omega⟩
  have hs : 1 ≤ (placesN c).length → bits_Sign.f ((gath w 0 (placesN c) : Nat) : Int) (((ints (placesN c)).length : Nat) : Int) = some (sgn (gath w 0 (placesN c)) (placesN c).length, 0) := by
    intro h1
    rw [hll]
    exact sign_ok h1 (by omega) hg
  have hr := sgn_range (by omega : (placesN c).length ≤ 32) hg
  unfold numN numV
  by_cases h73 : c = 73
  · have h1 : 1 ≤ (placesN c).length := by rw [h73]; decide
    rw [if_pos (by omega), if_pos (Or.inl h73)]
    simp only [dec_number.j0]
    rw [if_pos (by rw [h73]; rfl), hs h1, Option.bind_some]
  rw [if_neg (by omega)]
  by_cases h76 : c = 76
  · have h1 : 1 ≤ (placesN c).length := by rw [h76]; decide
    rw [if_pos (by omega), if_pos (Or.inr (Or.inl h76))]
    simp only [dec_number.j0]
    rw [if_pos (by rw [h76]; rfl), hs h1, Option.bind_some]
  rw [if_neg (by omega)]
  by_cases h83 : c = 83
  · have h1 : 1 ≤ (placesN c).length := by rw [h83]; decide
    rw [if_pos (Or.inr (Or.inr h83))]
    simp only [dec_number.j0]
    rw [if_pos (by rw [h83]; rfl), hs h1, Option.bind_some]
  have e83 : ((c : Int) == 83) = false := by rw [beq_eq_false_iff_ne]; omega
  rw [if_neg (by omega : ¬(c = 73 ∨ c = 76 ∨ c = 83)), e83]
  simp only [dec_number.j0]
  rw [if_neg (by decide)]
  by_cases h74 : c = 74
  · have h1 : 1 ≤ (placesN c).length := by rw [h74]; decide
    rw [if_pos (by omega), if_pos (Or.inl h74), hs h1, Option.bind_some, BitF.w64 (by omega) (by omega)]
  rw [if_neg (by omega)]
  by_cases h66 : c = 66
  · have h1 : 1 ≤ (placesN c).length := by rw [h66]; decide
    rw [if_pos (by omega), if_pos (Or.inr h66), hs h1, Option.bind_some, BitF.w64 (by omega) (by omega)]
  rw [if_neg (by omega), if_neg (by omega), BitF.w64 (by omega) (by omega)]
/-- A register's field. -/
def regN (b : Bool) (p w : Nat) : Nat := if b then takeN w p 5 else 0
theorem fld1_tells (b : Bool) {p w : Nat} (hw : w < 4294967296) : fld1 (if b then (p : Int) else -1) (w : Int) = ((regN b p w : Nat) : Int) := by
  unfold fld1 regN
  cases b with
  | false => rfl
  | true =>
    rw [if_pos rfl, if_pos (by omega), if_pos rfl, shr_u32 w p hw, show (31 : Int) = ((2 ^ 5 - 1 : Nat) : Int) from rfl,
      u32_and_nat _ _ (Nat.lt_of_le_of_lt (Nat.div_le_self _ _) hw) (by decide), Nat.and_two_pow_sub_one_eq_mod]
    have : w / 2 ^ p % 2 ^ 5 < 2 ^ 5 := Nat.mod_lt _ (by decide)
    rw [BitF.w64 (by omega) (by omega)]
    rfl
theorem fields_tells {op w : Nat} (h1 : 1 ≤ op) (h2 : op ≤ 94) (hw : w < 4294967296) {k : Nat} (hk : 100 ≤ k) :
    dec_fields.f k (op : Int) (formN op : Int) (w : Int) = some ((op : Int), ((regN (regs (formN op)).1 7 w : Nat) : Int), ((regN (regs (formN op)).2.1 15 w : Nat) : Int), ((regN (regs (formN op)).2.2 20 w : Nat) : Int), numN (formN op) w) := by
  have ho : op < 256 := by omega
  have h0 : formN op ≠ 0 := fun e => (form_zero op ho).1 e ⟨h1, h2⟩
  have hp := up (dec_registers.mono _) (pos_tells _ (form_in op ho)) k (by omega)
  unfold dec_fields.f
  rw [numberD_tells (form_in op ho) h0 hw hk, Option.bind_some, hp, Option.bind_some]
  have e1 := fld1_tells (regs (formN op)).1 (p := 7) hw
  have e2 := fld1_tells (regs (formN op)).2.1 (p := 15) hw
  have e3 := fld1_tells (regs (formN op)).2.2 (p := 20) hw
  unfold posN
  simp only []
  rw [← e1, ← e2, ← e3]
  rfl
/-- The word is this instruction, fields apart. -/
def hits (w op : Nat) : Prop := w &&& fixN (formN op) = baseN op
instance (w op : Nat) : Decidable (hits w op) := by unfold hits; infer_instance
def ansN (op w : Nat) : Int × Int × Int × Int × Int × Int :=
  ((op : Int), ((regN (regs (formN op)).1 7 w : Nat) : Int), ((regN (regs (formN op)).2.1 15 w : Nat) : Int), ((regN (regs (formN op)).2.2 20 w : Nat) : Int), numN (formN op) w, 0)
theorem insn_step {w n k : Nat} (hw : w < 4294967296) (hn : n < 94) (hk : 200 ≤ k) :
    dec_Insn.l0 (k + 1) (w : Int) (n : Int) = if hits w (n + 1) then some (ansN (n + 1) w) else dec_Insn.l0 k (w : Int) (((n + 1 : Nat)) : Int) := by
  have ho : n + 1 < 256 := by omega
  have h0 : formN (n + 1) ≠ 0 := fun e => (form_zero (n + 1) ho).1 e ⟨by omega, by omega⟩
  have hin := form_in (n + 1) ho
  have e1 : wrap64 ((n : Int) + 1) = ((n + 1 : Nat) : Int) := by rw [BitF.w64 (by omega) (by omega)]; rfl
  have e2 : ((n + 1 : Nat) : Int) % 256 = ((n + 1 : Nat) : Int) := Int.emod_eq_of_lt (by omega) (by omega)
  have hfx := up (dec_Fixed.mono _) (fix_tells _ hin h0) k (by omega)
  have hfl := fields_tells (op := n + 1) (by omega) (by omega) hw (k := k) (by omega)
  simp only [dec_Insn.l0]
  rw [if_pos (by omega), e1, e2, form_tells _ ho, Option.bind_some, base_tells _ ho, Option.bind_some]
  simp only []
  rw [hfx, Option.bind_some, if_pos (by omega : 1 ≤ n + 1 ∧ n + 1 ≤ 94)]
  simp only []
  rw [u32_and_nat _ _ hw (fix_lt _ hin), hfl, Option.bind_some]
  simp only []
  rw [if_neg (by omega : ¬ ((n + 1 : Nat) : Int) = 0)]
  by_cases h : hits w (n + 1)
  · have h' : w &&& fixN (formN (n + 1)) = baseN (n + 1) := h
    rw [if_pos (congrArg (fun x : Nat => (x : Int)) h'), if_pos h]
    rfl
  · have h' : ¬ ((w &&& fixN (formN (n + 1)) : Nat) : Int) = ((baseN (n + 1) : Nat) : Int) := fun e => h (Int.ofNat.inj e)
    rw [if_neg h', if_neg h]
theorem insn_none_l {w : Nat} (hw : w < 4294967296) : ∀ m n k : Nat, n + m = 94 → 201 + m ≤ k → (∀ op, n < op → op ≤ 94 → ¬ hits w op) → dec_Insn.l0 k (w : Int) (n : Int) = some (0, 0, 0, 0, 0, 40)
  | 0, n, k, hm, hk, h => by
    obtain ⟨k, rfl⟩ : ∃ m, k = m + 1 := ⟨k - 1, by omega⟩
    simp only [dec_Insn.l0]
    rw [if_neg (by omega)]
  | m + 1, n, k, hm, hk, h => by
    obtain ⟨k, rfl⟩ : ∃ m, k = m + 1 := ⟨k - 1, by omega⟩
    rw [insn_step hw (by omega) (by omega), if_neg (h (n + 1) (by omega) (by omega))]
    exact insn_none_l hw m (n + 1) k (by omega) (by omega) fun op a b => h op (by omega) b
theorem insn_hit_l {w op : Nat} (hw : w < 4294967296) (ho : op ≤ 94) (hh : hits w op) : ∀ m n k : Nat, n + m + 1 = op → 201 + m ≤ k → (∀ o, n < o → o < op → ¬ hits w o) → dec_Insn.l0 k (w : Int) (n : Int) = some (ansN op w)
  | 0, n, k, hm, hk, h => by
    obtain ⟨k, rfl⟩ : ∃ m, k = m + 1 := ⟨k - 1, by omega⟩
    obtain rfl : op = n + 1 := by omega
    rw [insn_step hw (by omega) (by omega), if_pos hh]
  | m + 1, n, k, hm, hk, h => by
    obtain ⟨k, rfl⟩ : ∃ m, k = m + 1 := ⟨k - 1, by omega⟩
    rw [insn_step hw (by omega) (by omega), if_neg (h (n + 1) (by omega) (by omega))]
    exact insn_hit_l hw ho hh m (n + 1) k (by omega) (by omega) fun o a b => h o (by omega) b
theorem apart : ∀ op < 95, ∀ o < 95, 1 ≤ op → 1 ≤ o → baseN op &&& fixN (formN o) = baseN o &&& fixN (formN op) → op = o := by decide +kernel
theorem hits_one {w op o : Nat} (h1 : 1 ≤ op) (h2 : op ≤ 94) (g1 : 1 ≤ o) (g2 : o ≤ 94) (hh : hits w op) (hg : hits w o) : op = o := by
  refine apart op (by omega) o (by omega) h1 g1 ?_
  rw [← hh, ← hg, Nat.and_assoc, Nat.and_assoc, Nat.and_comm (fixN _)]
theorem insn_hit {w op : Nat} (hw : w < 4294967296) (h1 : 1 ≤ op) (h2 : op ≤ 94) (hh : hits w op) {k : Nat} (hk : 300 ≤ k) : dec_Insn.f k (w : Int) = some (ansN op w) :=
  insn_hit_l hw h2 hh (op - 1) 0 k (by omega) (by omega) fun o a b e => by have := hits_one h1 h2 a (by omega) hh e; omega
theorem insn_none {w : Nat} (hw : w < 4294967296) (h : ∀ op, 1 ≤ op → op ≤ 94 → ¬ hits w op) {k : Nat} (hk : 300 ≤ k) : dec_Insn.f k (w : Int) = some (0, 0, 0, 0, 0, 40) :=
  insn_none_l hw 94 0 k (by omega) (by omega) fun op a b => h op a b
theorem insn_cases (w : Nat) : (∃ op, 1 ≤ op ∧ op ≤ 94 ∧ hits w op) ∨ (∀ op, 1 ≤ op → op ≤ 94 → ¬ hits w op) := by
  by_cases h : ∃ op, 1 ≤ op ∧ op ≤ 94 ∧ hits w op
  · exact .inl h
  · exact .inr fun op a b c => h ⟨op, a, b, c⟩
/-! ### The bits, one by one -/
def inR (b : Bool) (p j : Nat) : Bool := b && (decide (p ≤ j) && decide (j < p + 5))
theorem parts_of : ∀ c ∈ formsL, c ≠ 0 → ∀ j < 32, (fixN c).testBit j = !(inR (regs c).1 7 j || (inR (regs c).2.1 15 j || (inR (regs c).2.2 20 j || decide (j ∈ placesN c)))) ∧
    (decide (j ∈ placesN c) && (inR (regs c).1 7 j || (inR (regs c).2.1 15 j || inR (regs c).2.2 20 j))) = false := by decide +kernel
theorem base_fix : ∀ op < 95, 1 ≤ op → baseN op &&& fixN (formN op) = baseN op := by decide +kernel
theorem low_two : ∀ op < 95, 1 ≤ op → baseN op &&& 3 = 3 := by decide +kernel
theorem shift_bit {d p : Nat} {b : Bool} (hd : d < 32) (hb : b = false → d = 0) (j : Nat) : (d * 2 ^ p).testBit j = (inR b p j && d.testBit (j - p)) := by
  rw [Nat.testBit_mul_two_pow]
  unfold inR
  by_cases h1 : p ≤ j
  · by_cases h2 : j < p + 5
    · cases b
      · rw [hb rfl]; simp
      · simp [h1, h2]
    · have : d.testBit (j - p) = false := bit_ge (n := 5) hd (by omega)
      simp [this]
  · simp [h1]
theorem scat_bit_in (v : Nat) (ps : List Nat) (j : Nat) (h : j ∉ ps) : (scat v 0 ps).testBit j = false := by
  rw [Bool.eq_false_iff]; intro hb
  obtain ⟨m, p, hm, rfl, _⟩ := (scat_bit v ps 0 j).1 hb
  exact h (List.mem_of_getElem? hm)
theorem gath_congr {w w' : Nat} : ∀ (ps : List Nat) (i : Nat), (∀ p ∈ ps, w.testBit p = w'.testBit p) → gath w i ps = gath w' i ps
  | [], i, h => rfl
  | p :: ps, i, h => by rw [gath, gath, h p (by simp), gath_congr ps (i + 1) fun q hq => h q (by simp [hq])]
theorem word_bit {op d s t : Nat} {imm : Int} (h1 : 1 ≤ op) (h2 : op ≤ 94) (hd : d < 32) (hs : s < 32) (ht : t < 32)
    (bd : (regs (formN op)).1 = false → d = 0) (bs : (regs (formN op)).2.1 = false → s = 0) (bt : (regs (formN op)).2.2 = false → t = 0) (j : Nat) :
    (wordN op d s t imm).testBit j = ((baseN op).testBit j || (inR (regs (formN op)).1 7 j && d.testBit (j - 7) || (inR (regs (formN op)).2.1 15 j && s.testBit (j - 15) || (inR (regs (formN op)).2.2 20 j && t.testBit (j - 20) || (scat (codeN (formN op) imm) 0 (placesN (formN op))).testBit j)))) := by
  unfold wordN
  rw [Nat.testBit_or, Nat.testBit_or, Nat.testBit_or, Nat.testBit_or, show d * 128 = d * 2 ^ 7 from rfl, show s * 32768 = s * 2 ^ 15 from rfl, show t * 1048576 = t * 2 ^ 20 from rfl,
    shift_bit hd bd, shift_bit hs bs, shift_bit ht bt]
  simp only [Bool.or_assoc]
theorem word_lt {op d s t : Nat} {imm : Int} (h1 : 1 ≤ op) (h2 : op ≤ 94) (hd : d < 32) (hs : s < 32) (ht : t < 32) : wordN op d s t imm < 4294967296 := by
  have hin := form_in op (by omega)
  obtain ⟨hnd, hlt, hlen⟩ := places_ok _ hin
  have hS := scat_lt (codeN (formN op) imm) (n := 32) (placesN (formN op)) 0 hlt
  exact or_lt (or_lt (or_lt (or_lt (base_lt op (by omega)) (by omega)) (by omega)) (by omega)) hS
end Go.Proofs.YtpijiohiohiilaaDoor.DecF
