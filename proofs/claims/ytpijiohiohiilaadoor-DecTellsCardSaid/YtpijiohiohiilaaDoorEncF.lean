/- What the package enc computes, told in plain numbers: an instruction's word, bit by bit. -/
import Derived.Test.YtpijiohiohiilaaDoorDEnc
import Derived.Test.YtpijiohiohiilaaDoorGEnc
import Derived.Test.YtpijiohiohiilaaDoorCheckF
namespace Go.Proofs.YtpijiohiohiilaaDoor.EncF
set_option linter.unusedVariables false
set_option linter.unusedSimpArgs false
set_option maxRecDepth 100000
open Go Go.RowKit Go.Proofs.YtpijiohiohiilaaDoor.D Go.Proofs.YtpijiohiohiilaaDoor.InsnF Go.Proofs.YtpijiohiohiilaaDoor.CheckF Go.Proofs.YtpijiohiohiilaaDoor.BitL Go.Proofs.YtpijiohiohiilaaDoor.BitF Go.Proofs.YtpijiohiohiilaaDoorW.PrintWords Go.Proofs.YtpijiohiohiilaaDoorW.PrintMore
/-- The places of a form's number. -/
def placesN : Nat → List Nat
  | 85 => List.range' 12 20
  | 74 => List.range' 21 10 ++ (20 :: List.range' 12 8) ++ [31]
  | 73 => List.range' 20 12 | 76 => List.range' 20 12 | 67 => List.range' 20 12 | 90 => List.range' 20 12
  | 66 => List.range' 8 4 ++ List.range' 25 6 ++ [7, 31]
  | 83 => List.range' 7 5 ++ List.range' 25 7
  | 54 => List.range' 20 6 | 53 => List.range' 20 5 | 70 => List.range' 20 8 | 108 => List.range' 25 2 | 65 => List.range' 25 2
  | _ => []
theorem places_tells : ∀ c ∈ formsL, c ≠ 0 → enc_Places.f 60 (c : Int) = some (ints (placesN c), 0) := by
  intro c hc h0
  simp only [formsL, List.mem_cons, List.not_mem_nil, or_false] at hc
  rcases hc with rfl | rfl | rfl | rfl | rfl | rfl | rfl | rfl | rfl | rfl | rfl | rfl | rfl | rfl | rfl | rfl
  · exact absurd rfl h0
  all_goals decide +kernel
theorem places_ok : ∀ c ∈ formsL, (placesN c).Nodup ∧ (∀ p ∈ placesN c, p < 32) ∧ (placesN c).length ≤ 20 := by decide +kernel
/-- An instruction's bits without its fields. -/
def baseN (op : Nat) : Nat := (basesL.getD (op - 1) 0).toNat
theorem baseAt_tells : ∀ op : Nat, op < 95 → 1 ≤ op → enc_baseAt.f (((op : Int) - 1) % 256) = some ((baseN op : Nat) : Int) := by decide +kernel
theorem base_tells : ∀ op : Nat, op < 256 → enc_Base.f (op : Int) = some (if 1 ≤ op ∧ op ≤ 94 then (((baseN op : Nat) : Int), 0) else (0, 2)) := by decide +kernel
theorem base_lt : ∀ op : Nat, op < 95 → baseN op < 4294967296 := by decide +kernel
/-- A number's bits, as its form has them. -/
def codeN (c : Nat) (imm : Int) : Nat := ((if c = 74 ∨ c = 66 then imm / 2 else imm) % ((2 ^ (placesN c).length : Nat) : Int)).toNat
theorem codeN_lt (c : Nat) (imm : Int) : codeN c imm < 2 ^ (placesN c).length := by
  have hp := Nat.two_pow_pos (placesN c).length
  have := Int.emod_lt_of_pos (if c = 74 ∨ c = 66 then imm / 2 else imm) (by omega : (0 : Int) < ((2 ^ (placesN c).length : Nat) : Int))
  have := Int.emod_nonneg (if c = 74 ∨ c = 66 then imm / 2 else imm) (by omega : ((2 ^ (placesN c).length : Nat) : Int) ≠ 0)
  unfold codeN
  omega
def wordN (op rd rs1 rs2 : Nat) (imm : Int) : Nat := (((baseN op ||| rd * 128) ||| rs1 * 32768) ||| rs2 * 1048576) ||| scat (codeN (formN op) imm) 0 (placesN (formN op))
theorem okReg_range {has : Bool} {n : Int} (h : okReg has n = true) : 0 ≤ n ∧ n ≤ 31 ∧ (has = false → n = 0) := by
  unfold okReg at h
  rw [decide_eq_true_eq] at h
  rcases h with h | ⟨h1, h2, h3⟩
  · exact ⟨by omega, by omega, fun _ => h⟩
  · exact ⟨by omega, h3, fun e => by rw [e] at h1; cases h1⟩
theorem and_mask (X : Int) (n : Nat) (hn : n ≤ 32) : Go.bits .and .u32 (X % 4294967296) ((2 ^ n - 1 : Nat) : Int) = ((X % ((2 ^ n : Nat) : Int)).toNat : Int) := by
  obtain ⟨y, hy⟩ := Int.eq_ofNat_of_zero_le (by omega : 0 ≤ X % 4294967296)
  have hy32 : y < 4294967296 := by omega
  have hp := Nat.two_pow_pos n
  rw [hy, u32_and_nat y _ hy32 (mask_lt n hn), Nat.and_two_pow_sub_one_eq_mod]
  have e32 : 2 ^ n * 2 ^ (32 - n) = 4294967296 := by rw [← Nat.pow_add, show n + (32 - n) = 32 from by omega]
  have : ((y % 2 ^ n : Nat) : Int) = X % ((2 ^ n : Nat) : Int) := by
    rw [Int.natCast_emod, ← hy]
    exact Int.emod_emod_of_dvd X ⟨((2 ^ (32 - n) : Nat) : Int), by rw [← Int.natCast_mul, e32]; rfl⟩
  omega
theorem reg_term (r m : Nat) (hr : r ≤ 31) (hm : r * m < 4294967296) : (((r : Int) % 4294967296) * (m : Int)) % 4294967296 = ((r * m : Nat) : Int) := by
  have e1 : (r : Int) % 4294967296 = (r : Int) := Int.emod_eq_of_lt (by omega) (by omega)
  rw [e1, ← Int.natCast_mul]
  exact Int.emod_eq_of_lt (by omega) (by omega)
theorem word_tells {op : Nat} (ho : op < 256) (rd rs1 rs2 imm : Int) (h0 : -9223372036854775808 ≤ imm) (h1 : imm < 9223372036854775808) {k : Nat} (hk : 100 ≤ k) :
    enc_Word.f k (op : Int) rd rs1 rs2 imm = some (if mayB op rd rs1 rs2 imm then (((wordN op rd.toNat rs1.toNat rs2.toNat imm : Nat) : Int), 0) else (0, 20)) := by
  unfold enc_Word.f
  rw [check_tells ho rd rs1 rs2 imm h0 h1 (by omega), Option.bind_some]
  by_cases hm : ¬ mayB op rd rs1 rs2 imm = true
  · rw [if_neg hm, if_neg (by decide), if_neg hm]
  have hm : mayB op rd rs1 rs2 imm = true := Decidable.not_not.mp hm
  rw [if_pos hm, if_pos rfl, if_pos hm]
  have hm' := hm
  unfold mayB at hm'
  simp only [Bool.and_eq_true, decide_eq_true_eq] at hm'
  obtain ⟨hop, q1, q2, q3, q4⟩ := hm'
  have hin := form_in op ho
  have hf0 : formN op ≠ 0 := fun e => (form_zero op ho).1 e hop
  obtain ⟨hnd, hlt, hlen⟩ := places_ok _ hin
  have hpl := up (enc_Places.mono _) (places_tells _ hin hf0) k (by omega)
  rw [form_tells op ho, Option.bind_some]
  simp only []
  rw [hpl, Option.bind_some]
  simp only []
  obtain ⟨a1, a2, a3⟩ := okReg_range q1
  obtain ⟨b1, b2, b3⟩ := okReg_range q2
  obtain ⟨c1, c2, c3⟩ := okReg_range q3
  obtain ⟨d, rfl⟩ := Int.eq_ofNat_of_zero_le a1
  obtain ⟨s, rfl⟩ := Int.eq_ofNat_of_zero_le b1
  obtain ⟨t, rfl⟩ := Int.eq_ofNat_of_zero_le c1
  have hll : (ints (placesN (formN op))).length = (placesN (formN op)).length := by simp
  obtain ⟨k, rfl⟩ : ∃ m, k = m + 1 := ⟨k - 1, by omega⟩
  have fin : ∀ (X : Int) (b : Bool), (if b = true then imm / 2 else imm) = X → codeN (formN op) imm = (X % ((2 ^ (placesN (formN op)).length : Nat) : Int)).toNat →
      enc_Word.j0 (k + 1) (ints (placesN (formN op))) imm b (op : Int) (d : Int) (s : Int) (t : Int) imm = some (((wordN op d s t imm : Nat) : Int), 0) := by
    intro X b hX hc
    have hmask : ((shl .u32 1 ((placesN (formN op)).length : Int)) - 1) % 4294967296 = ((2 ^ (placesN (formN op)).length - 1 : Nat) : Int) := by
      have := mask_ok (placesN (formN op)).length (by omega)
      unfold bits_mask.f at this
      rw [u64w _ (by omega), if_pos (by omega)] at this
      exact Option.some.inj this
    have hsc := scatter_ok (k := k) hlt hnd (by omega) (codeN_lt (formN op) imm) (by omega)
    have hba := baseAt_tells op (by omega) hop.1
    have hB := base_lt op (by omega)
    have hS := scat_lt (codeN (formN op) imm) (n := 32) (placesN (formN op)) 0 hlt
    have fin2 : ∀ Y : Int, Y % 4294967296 = X % 4294967296 →
      (if 0 ≤ (IntKind.u64.wrap ((ints (placesN (formN op))).length : Int)) then ((bits_Scatter.f k (Go.bits .and .u32 (Y % 4294967296) (((shl .u32 1 (IntKind.u64.wrap (((ints (placesN (formN op))).length : Int)))) - 1) % 4294967296)) (ints (placesN (formN op)))).bind fun bt194 => ((enc_baseAt.f (((op : Int) - 1) % 256)).bind fun t196 => (some (Go.bits .or .u32 (Go.bits .or .u32 (Go.bits .or .u32 (Go.bits .or .u32 t196 ((((d : Int) % 4294967296) * 128) % 4294967296)) ((((s : Int) % 4294967296) * 32768) % 4294967296)) ((((t : Int) % 4294967296) * 1048576) % 4294967296)) bt194.1, (0 : Int))))) else (none)) = some (((wordN op d s t imm : Nat) : Int), 0) := by
      intro Y hY
      rw [hll, u64w _ (by omega), if_pos (by omega), hmask, hY, and_mask X _ (by omega), ← hc, hsc, Option.bind_some, hba, Option.bind_some,
        show (128 : Int) = ((128 : Nat) : Int) from rfl, show (32768 : Int) = ((32768 : Nat) : Int) from rfl, show (1048576 : Int) = ((1048576 : Nat) : Int) from rfl,
        reg_term d 128 (by omega) (by omega), reg_term s 32768 (by omega) (by omega), reg_term t 1048576 (by omega) (by omega),
        u32_or_nat _ _ hB (by omega), u32_or_nat _ _ (or_lt hB (by omega)) (by omega), u32_or_nat _ _ (or_lt (or_lt hB (by omega)) (by omega)) (by omega), u32_or_nat _ _ (or_lt (or_lt (or_lt hB (by omega)) (by omega)) (by omega)) hS]
      rfl
    simp only [enc_Word.j0]
    cases b with
    | true => rw [if_pos rfl]; exact fin2 (imm / 2) (by rw [← hX]; rfl)
    | false => rw [if_neg (by decide)]; exact fin2 imm (by rw [← hX]; rfl)
  have e74 : ((formN op : Int) = 74) ↔ formN op = 74 := by omega
  by_cases h74 : formN op = 74
  · rw [if_pos (e74.2 h74)]
    exact fin _ true rfl (by unfold codeN; rw [if_pos (Or.inl h74)]; rfl)
  · rw [if_neg (fun e => h74 (e74.1 e))]
    by_cases h66 : formN op = 66
    · have : ((formN op : Int) == 66) = true := by rw [h66]; rfl
      rw [this]
      exact fin _ true rfl (by unfold codeN; rw [if_pos (Or.inr h66)]; rfl)
    · have : ((formN op : Int) == 66) = false := by rw [beq_eq_false_iff_ne]; omega
      rw [this]
      exact fin _ false rfl (by unfold codeN; rw [if_neg (by rintro (h | h) <;> contradiction)]; rfl)
end Go.Proofs.YtpijiohiohiilaaDoor.EncF
