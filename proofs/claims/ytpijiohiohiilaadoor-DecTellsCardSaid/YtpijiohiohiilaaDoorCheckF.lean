/- What insn.Check and the reference's Check compute, form by form: they are the same. -/
import Derived.Test.YtpijiohiohiilaaDoorDInsn
import Derived.Test.YtpijiohiohiilaaDoorBitF
namespace Go.Proofs.YtpijiohiohiilaaDoor.InsnF
end Go.Proofs.YtpijiohiohiilaaDoor.InsnF
namespace Go.Proofs.YtpijiohiohiilaaDoor.CheckF
set_option linter.unusedVariables false
set_option linter.unusedSimpArgs false
open Go Go.RowKit Go.Proofs.YtpijiohiohiilaaDoor.D Go.Proofs.YtpijiohiohiilaaDoor.InsnF Go.Proofs.YtpijiohiohiilaaDoorW.PrintWords
/-- A register that may be. -/
def okReg (has : Bool) (n : Int) : Bool := decide (n = 0 ∨ has = true ∧ 1 ≤ n ∧ n ≤ 31)
/-- A form's number: least, greatest, by what it goes. -/
def span : Nat → Int × Int × Int
  | 85 => (0, 1048575, 1) | 74 => (-1048576, 1048574, 2) | 66 => (-4096, 4094, 2)
  | 73 => (-2048, 2047, 1) | 76 => (-2048, 2047, 1) | 83 => (-2048, 2047, 1)
  | 54 => (0, 63, 1) | 53 => (0, 31, 1) | 70 => (0, 255, 1) | 67 => (0, 4095, 1) | 90 => (0, 4095, 1) | 108 => (0, 3, 1) | 65 => (0, 3, 1)
  | _ => (0, 0, 1)
/-- Which registers a form has. -/
def regs : Nat → Bool × Bool × Bool
  | 85 => (true, false, false) | 74 => (true, false, false) | 66 => (false, true, true) | 83 => (false, true, true) | 82 => (true, true, true) | 65 => (true, true, true)
  | 73 => (true, true, false) | 76 => (true, true, false) | 54 => (true, true, false) | 53 => (true, true, false) | 67 => (true, true, false) | 90 => (true, true, false) | 108 => (true, true, false)
  | _ => (false, false, false)
def okNum (c : Nat) (n : Int) : Bool := decide ((span c).1 ≤ n ∧ n ≤ (span c).2.1 ∧ n % (span c).2.2 = 0)
/-- The forms that there are (0: none). -/
def formsL : List Nat := [0, 85, 74, 66, 73, 76, 83, 54, 53, 82, 70, 78, 67, 90, 108, 65]
/-- An instruction's form; 0: there is none. -/
def formN (op : Nat) : Nat := ((insn_Form.f (op : Int)).getD (0, 2)).1.toNat
theorem form_tells : ∀ op : Nat, op < 256 → insn_Form.f (op : Int) = some ((formN op : Int), if 1 ≤ op ∧ op ≤ 94 then 0 else 2) := by decide +kernel
theorem form_in : ∀ op : Nat, op < 256 → formN op ∈ formsL := by decide +kernel
theorem form_zero : ∀ op : Nat, op < 256 → (formN op = 0 ↔ ¬(1 ≤ op ∧ op ≤ 94)) := by decide +kernel
theorem regs_tells : ∀ c ∈ formsL, insn_registers.f 20 (c : Int) = some (regs c) := by decide +kernel
theorem register_tells (has : Bool) (n : Int) : insn_register.f has n = some (okReg has n) := by
  unfold insn_register.f insn_in.f okReg
  by_cases h0 : n = 0
  · rw [if_pos h0]; simp [h0]
  · rw [if_neg h0]
    cases has
    · rw [if_neg (by decide)]; simp [h0]
    · rw [if_pos rfl]
      by_cases h1 : n ≥ 1
      · rw [if_pos h1, Option.bind_some]; congr 1; rw [Bool.eq_iff_iff]; simp [h0]; omega
      · rw [if_neg h1, Option.bind_some]; congr 1; rw [eq_comm, decide_eq_false_iff_not]; rintro (h | h) <;> omega
theorem tmod_two (n : Int) : (Int.tmod n 2 == 0) = decide (n % 2 = 0) := by
  rw [Bool.eq_iff_iff, beq_iff_eq, decide_eq_true_eq]
  constructor
  · intro h; have := Int.dvd_of_tmod_eq_zero h; omega
  · intro h; exact Int.tmod_eq_zero_of_dvd (by omega)
theorem number_tells (c : Nat) (hc : c ∈ formsL) (n : Int) (h0 : -9223372036854775808 ≤ n) (h1 : n < 9223372036854775808) : insn_number.f 20 (c : Int) n = some (okNum c n) := by
  have fin : ∀ lo hi : Int, (insn_in.f n lo hi) = some (decide (lo ≤ n ∧ n ≤ hi)) := by
    intro lo hi
    unfold insn_in.f
    by_cases h : n ≥ lo
    · rw [if_pos h]; congr 1; rw [Bool.eq_iff_iff]; simp; omega
    · rw [if_neg h]; congr 1; rw [eq_comm, decide_eq_false_iff_not]; omega
  have fits : ∀ m : Nat, 1 ≤ m → m ≤ 63 → bits_Fits.f n (m : Int) = some (decide (-((2 ^ (m - 1) : Nat) : Int) ≤ n ∧ n < ((2 ^ (m - 1) : Nat) : Int))) := fun m a b => BitF.fits_ok h0 h1 a b
  have f12 : bits_Fits.f n 12 = some (decide (-2048 ≤ n ∧ n < 2048)) := fits 12 (by decide) (by decide)
  have f13 : bits_Fits.f n 13 = some (decide (-4096 ≤ n ∧ n < 4096)) := fits 13 (by decide) (by decide)
  have f21 : bits_Fits.f n 21 = some (decide (-1048576 ≤ n ∧ n < 1048576)) := fits 21 (by decide) (by decide)
  clear fits
  have ev : ∀ (b c : Bool), (some b).bind (fun t => if t = true then some c else some false) = some (b && c) := by intro b c; cases b <;> rfl
  simp only [formsL, List.mem_cons, List.not_mem_nil, or_false] at hc
  unfold okNum
  rcases hc with rfl | rfl | rfl | rfl | rfl | rfl | rfl | rfl | rfl | rfl | rfl | rfl | rfl | rfl | rfl | rfl <;>
    simp only [insn_number.f, insn_number.j0, insn_number.j1, span, fin, tmod_two, f12, f13, f21, ev, Option.bind_some] <;>
    first
      | (simp; done)
      | (simp; rw [Bool.eq_iff_iff]; simp; omega)
      | (simp; omega)
      | skip

/-- More rounds tell the same. -/
theorem up {α : Type} {f : Nat → Option α} (hm : ∀ k, LeO (f k) (f (k + 1))) {n : Nat} {r : α} (h : f n = some r) : ∀ m, n ≤ m → f m = some r := by
  intro m hnm
  obtain ⟨d, rfl⟩ := Nat.le.dest hnm
  induction d with
  | zero => exact h
  | succ d ih => exact hm (n + d) r (ih (by omega))
/-- An instruction may be. -/
def mayB (op : Nat) (rd rs1 rs2 imm : Int) : Bool :=
  decide (1 ≤ op ∧ op ≤ 94) && (okReg (regs (formN op)).1 rd && (okReg (regs (formN op)).2.1 rs1 && (okReg (regs (formN op)).2.2 rs2 && okNum (formN op) imm)))
theorem check_tells {op : Nat} (ho : op < 256) (rd rs1 rs2 imm : Int) (h0 : -9223372036854775808 ≤ imm) (h1 : imm < 9223372036854775808) {k : Nat} (hk : 20 ≤ k) :
    insn_Check.f k (op : Int) rd rs1 rs2 imm = some (if mayB op rd rs1 rs2 imm then 0 else 20) := by
  have hr := up (insn_registers.mono _) (regs_tells _ (form_in op ho)) k hk
  have hn := up (insn_number.mono _ _) (number_tells _ (form_in op ho) imm h0 h1) k hk
  unfold insn_Check.f mayB
  rw [form_tells op ho, Option.bind_some]
  simp only []
  rw [hr, Option.bind_some]
  by_cases h : 1 ≤ op ∧ op ≤ 94
  · simp only [if_pos h, if_true, register_tells, hn, Option.bind_some, decide_eq_true h, Bool.true_and]
    cases okReg (regs (formN op)).1 rd <;> cases okReg (regs (formN op)).2.1 rs1 <;> cases okReg (regs (formN op)).2.2 rs2 <;> cases okNum (formN op) imm <;> rfl
  · simp only [if_neg h, decide_eq_false h, Bool.false_and]
    rfl
end Go.Proofs.YtpijiohiohiilaaDoor.CheckF
