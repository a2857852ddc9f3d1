/- What the reference quoinref04 computes, told in plain numbers: the same as the package dec. -/
import Derived.Test.YtpijiohiohiilaaDoorDQuoinref04
import Derived.Test.YtpijiohiohiilaaDoorDQuoinref04n1
import Derived.Test.YtpijiohiohiilaaDoorDQuoinref04n2
import Derived.Test.YtpijiohiohiilaaDoorEncR
import Derived.Test.YtpijiohiohiilaaDoorDecF
namespace Go.Proofs.YtpijiohiohiilaaDoor.DecR
set_option linter.unusedVariables false
set_option linter.unusedSimpArgs false
set_option maxRecDepth 100000
open Go Go.RowKit Go.Proofs.YtpijiohiohiilaaDoor.D Go.Proofs.YtpijiohiohiilaaDoor.InsnF Go.Proofs.YtpijiohiohiilaaDoor.CheckF Go.Proofs.YtpijiohiohiilaaDoor.CheckR Go.Proofs.YtpijiohiohiilaaDoor.BitL Go.Proofs.YtpijiohiohiilaaDoor.BitF Go.Proofs.YtpijiohiohiilaaDoor.EncF Go.Proofs.YtpijiohiohiilaaDoor.DecF Go.Proofs.YtpijiohiohiilaaDoor.RefF Go.Proofs.YtpijiohiohiilaaDoor.RefG Go.Proofs.YtpijiohiohiilaaDoor.EncR Go.Proofs.YtpijiohiohiilaaDoorW.PrintWords Go.Proofs.YtpijiohiohiilaaDoorW.PrintMore
theorem has_tells : ∀ c ∈ formsL, c ≠ 0 → quoinref04_has.f 400 (c : Int) = some (regs c) := by decide +kernel
/-- A form's fixed bits, both: the same. -/
theorem fixed_same : ∀ c : Nat, c < 256 → (match dec_Fixed.f 80 (c : Int), quoinref04_Fixed.f 1200 (c : Int) with | some p, some q => p == q | _, _ => false) = true := by decide +kernel
theorem fix_low : ∀ c ∈ formsL, c ≠ 0 → fixN c &&& 127 = 127 := by decide +kernel
theorem regs_range (b : Bool) (p w : Nat) : ((regN b p w : Nat) : Int) < 32 := by have := (regN_ok b p w).2.1; omega
/-- The fields of a word are an instruction that may be. -/
theorem fields_may {op w : Nat} (h1 : 1 ≤ op) (h2 : op ≤ 94) :
    mayB op ((regN (regs (formN op)).1 7 w : Nat) : Int) ((regN (regs (formN op)).2.1 15 w : Nat) : Int) ((regN (regs (formN op)).2.2 20 w : Nat) : Int) (numN (formN op) w) = true := by
  have hin := form_in op (by omega)
  have h0 : formN op ≠ 0 := fun e => (form_zero op (by omega)).1 e ⟨h1, h2⟩
  have hg := gath_lt w (placesN (formN op)) 0
  rw [Nat.zero_add] at hg
  unfold mayB
  rw [(regN_ok _ 7 w).1, (regN_ok _ 15 w).1, (regN_ok _ 20 w).1, decide_eq_true (⟨h1, h2⟩ : 1 ≤ op ∧ op ≤ 94)]
  exact (numV_ok _ hin h0 _ hg).1
theorem hits_iff {op w : Nat} (hw : w < 4294967296) (h1 : 1 ≤ op) (h2 : op ≤ 94) :
    wordN op (regN (regs (formN op)).1 7 w) (regN (regs (formN op)).2.1 15 w) (regN (regs (formN op)).2.2 20 w) (numN (formN op) w) = w ↔ hits w op := by
  obtain ⟨_, a2, a3⟩ := regN_ok (regs (formN op)).1 7 w
  obtain ⟨_, b2, b3⟩ := regN_ok (regs (formN op)).2.1 15 w
  obtain ⟨_, c2, c3⟩ := regN_ok (regs (formN op)).2.2 20 w
  constructor
  · intro e
    have := word_hits (imm := numN (formN op) w) h1 h2 a2 b2 c2 a3 b3 c3
    rwa [e] at this
  · intro h; exact (enc_dec hw h1 h2 h).2
theorem read_tells {op w : Nat} (hw : w < 4294967296) (h1 : 1 ≤ op) (h2 : op ≤ 94) {k : Nat} (hk : 1500 ≤ k) :
    quoinref04_Read.f k (op : Int) (w : Int) = some ((op : Int), ((regN (regs (formN op)).1 7 w : Nat) : Int), ((regN (regs (formN op)).2.1 15 w : Nat) : Int), ((regN (regs (formN op)).2.2 20 w : Nat) : Int), numN (formN op) w, decide (hits w op)) := by
  have ho : op < 256 := by omega
  have hin := form_in op ho
  have h0 : formN op ≠ 0 := fun e => (form_zero op ho).1 e ⟨h1, h2⟩
  obtain ⟨hnd, hlt, hlen⟩ := places_ok _ hin
  have hll : (ints (placesN (formN op))).length = (placesN (formN op)).length := by simp
  have hg := gath_lt w (placesN (formN op)) 0
  rw [Nat.zero_add] at hg
  have hg20 : gath w 0 (placesN (formN op)) < 4294967296 := Nat.lt_of_lt_of_le hg (pow_le_32 (by omega))
  have hf := up (quoinref02_Form.mono _) (rform_tells op ho) k (by omega)
  have hpl := up (quoinref03_Places.mono _) (rplaces_tells hin h0) k (by omega)
  have hr := sgn_range (by omega : (placesN (formN op)).length ≤ 32) hg
  obtain ⟨k, rfl⟩ : ∃ m, k = m + 5 := ⟨k - 5, by omega⟩
  have hhas := up (quoinref04_has.mono _) (has_tells _ hin h0) (k + 2) (by omega)
  have hs : 1 ≤ (placesN (formN op)).length → quoinref01_Signed.f (k + 5) ((gath w 0 (placesN (formN op)) : Nat) : Int) (((ints (placesN (formN op))).length : Nat) : Int) = some (sgn (gath w 0 (placesN (formN op))) (placesN (formN op)).length) := by
    intro hx
    rw [hll]
    exact rsigned_ok hx (by omega) hg (by omega)
  -- the registers, then the answer
  have last : ∀ X : Int, X = numN (formN op) w → quoinref04_Read.j2 (k + 3) (w : Int) (formN op : Int) (op : Int) 0 0 0 X = some ((op : Int), ((regN (regs (formN op)).1 7 w : Nat) : Int), ((regN (regs (formN op)).2.1 15 w : Nat) : Int), ((regN (regs (formN op)).2.2 20 w : Nat) : Int), numN (formN op) w, decide (hits w op)) := by
    rintro X rfl
    have bits : ∀ p k' : Nat, p + 5 ≤ 32 → 100 ≤ k' → quoinref01_Bits.f k' (w : Int) (p : Int) 5 = some ((takeN w p 5 : Nat) : Int) := fun p k' hp hk' => bits_ok (n := 5) hw (by omega) (by decide) (by omega) (by omega)
    have wr : ∀ p, wrap64 ((takeN w p 5 : Nat) : Int) = ((takeN w p 5 : Nat) : Int) := fun p => by have : takeN w p 5 < 32 := takeN_lt w p 5; exact BitF.w64 (by omega) (by omega)
    have hcode := rcoded_tells (fields_may (w := w) h1 h2) (k := k) (by omega)
    simp only [Int.toNat_natCast] at hcode
    have hmay := rmay_tells ho ((regN (regs (formN op)).1 7 w : Nat) : Int) ((regN (regs (formN op)).2.1 15 w : Nat) : Int) ((regN (regs (formN op)).2.2 20 w : Nat) : Int) (numN (formN op) w) (k := k) (by omega)
    rw [fields_may h1 h2] at hmay
    have fin : ((some true).bind fun t742 => (if t742 = true then ((quoinref03_Coded.f k (op : Int) ((regN (regs (formN op)).1 7 w : Nat) : Int) ((regN (regs (formN op)).2.1 15 w : Nat) : Int) ((regN (regs (formN op)).2.2 20 w : Nat) : Int) (numN (formN op) w)).bind fun t743 => (some ((op : Int), ((regN (regs (formN op)).1 7 w : Nat) : Int), ((regN (regs (formN op)).2.1 15 w : Nat) : Int), ((regN (regs (formN op)).2.2 20 w : Nat) : Int), numN (formN op) w, (t743 == (w : Int))))) else (some ((op : Int), ((regN (regs (formN op)).1 7 w : Nat) : Int), ((regN (regs (formN op)).2.1 15 w : Nat) : Int), ((regN (regs (formN op)).2.2 20 w : Nat) : Int), numN (formN op) w, false)))) =
        some ((op : Int), ((regN (regs (formN op)).1 7 w : Nat) : Int), ((regN (regs (formN op)).2.1 15 w : Nat) : Int), ((regN (regs (formN op)).2.2 20 w : Nat) : Int), numN (formN op) w, decide (hits w op)) := by
      rw [Option.bind_some, if_pos rfl, hcode, Option.bind_some]
      have : ((((wordN op (regN (regs (formN op)).1 7 w) (regN (regs (formN op)).2.1 15 w) (regN (regs (formN op)).2.2 20 w) (numN (formN op) w) : Nat)) : Int) == (w : Int)) = decide (hits w op) := by
        rw [Bool.eq_iff_iff, beq_iff_eq, decide_eq_true_eq, ← hits_iff hw h1 h2]
        omega
      rw [this]
    revert hmay hcode fin
    simp only [quoinref04_Read.j2]
    rw [hhas, Option.bind_some]
    generalize decide (hits w op) = D
    rcases regs (formN op) with ⟨d, s, t⟩
    unfold regN
    intro hcode hmay fin
    cases d <;> cases s <;> cases t <;>
      simp only [quoinref04_Read.j3, quoinref04_Read.j4, if_true, if_false, Bool.false_eq_true, Option.bind_some, show (7 : Int) = ((7 : Nat) : Int) from rfl, show (15 : Int) = ((15 : Nat) : Int) from rfl, show (20 : Int) = ((20 : Nat) : Int) from rfl, bits _ _ (by omega : 7 + 5 ≤ 32) (by omega : 100 ≤ k + 2), bits _ _ (by omega : 15 + 5 ≤ 32) (by omega : 100 ≤ k + 1), bits _ _ (by omega : 20 + 5 ≤ 32) (by omega : 100 ≤ k), wr, Int.natCast_zero] at hmay fin ⊢ <;>
      (rw [hmay, Option.bind_some, if_pos rfl]; exact fin)
  have mid : ∀ (X : Int) (hX : -9223372036854775808 ≤ 2 * X ∧ 2 * X < 9223372036854775808), (if formN op = 74 ∨ formN op = 66 then 2 * X else X) = numN (formN op) w →
      quoinref04_Read.j0 (k + 5) (w : Int) (formN op : Int) (op : Int) 0 0 0 X = some ((op : Int), ((regN (regs (formN op)).1 7 w : Nat) : Int), ((regN (regs (formN op)).2.1 15 w : Nat) : Int), ((regN (regs (formN op)).2.2 20 w : Nat) : Int), numN (formN op) w, decide (hits w op)) := by
    intro X hX hN
    simp only [quoinref04_Read.j0]
    by_cases h74 : formN op = 74
    · rw [if_pos (Or.inl h74)] at hN
      rw [if_pos (by omega)]
      simp only [quoinref04_Read.j1]
      rw [if_pos trivial, BitF.w64 hX.1 hX.2]
      exact last _ hN
    · rw [if_neg (by omega)]
      simp only [quoinref04_Read.j1]
      by_cases h66 : formN op = 66
      · rw [if_pos (Or.inr h66)] at hN
        rw [if_pos (by rw [h66]; rfl), BitF.w64 hX.1 hX.2]
        exact last _ hN
      · rw [if_neg (by omega)] at hN
        have e66 : ((formN op : Int) == 66) = false := by rw [beq_eq_false_iff_ne]; omega
        rw [e66, if_neg (by decide)]
        exact last _ hN
  unfold quoinref04_Read.f
  rw [hf, Option.bind_some]
  simp only []
  rw [hpl, Option.bind_some]
  simp only []
  rw [rgather_ok hlt hnd (by omega) hw (by omega), Option.bind_some]
  simp only []
  unfold numN numV at mid
  by_cases h73 : formN op = 73
  · have hx : 1 ≤ (placesN (formN op)).length := by rw [h73]; decide
    rw [if_pos (by omega), hs hx, Option.bind_some]
    exact mid _ (by omega) (by rw [if_neg (by omega), if_pos (Or.inl h73)])
  rw [if_neg (by omega)]
  by_cases h76 : formN op = 76
  · have hx : 1 ≤ (placesN (formN op)).length := by rw [h76]; decide
    rw [if_pos (by omega), hs hx, Option.bind_some]
    exact mid _ (by omega) (by rw [if_neg (by omega), if_pos (Or.inr (Or.inl h76))])
  rw [if_neg (by omega)]
  by_cases h83 : formN op = 83
  · have hx : 1 ≤ (placesN (formN op)).length := by rw [h83]; decide
    rw [if_pos (by omega), hs hx, Option.bind_some]
    exact mid _ (by omega) (by rw [if_neg (by omega), if_pos (Or.inr (Or.inr h83))])
  rw [if_neg (by omega)]
  by_cases h74 : formN op = 74
  · have hx : 1 ≤ (placesN (formN op)).length := by rw [h74]; decide
    rw [if_pos (by omega), hs hx, Option.bind_some]
    exact mid _ (by omega) (by rw [if_pos (Or.inl h74), if_neg (by omega), if_pos (Or.inl h74)])
  rw [if_neg (by omega)]
  by_cases h66 : formN op = 66
  · have hx : 1 ≤ (placesN (formN op)).length := by rw [h66]; decide
    rw [if_pos (by omega), hs hx, Option.bind_some]
    exact mid _ (by omega) (by rw [if_pos (Or.inr h66), if_neg (by omega), if_pos (Or.inr h66)])
  rw [if_neg (by omega), BitF.w64 (by omega) (by omega)]
  exact mid _ (by omega) (by rw [if_neg (by omega), if_neg (by omega), if_neg (by omega)])
theorem low_code {op w : Nat} (h1 : 1 ≤ op) (h2 : op ≤ 94) (hh : hits w op) : baseN op % 128 = w % 128 := by
  have hin := form_in op (by omega)
  have h0 : formN op ≠ 0 := fun e => (form_zero op (by omega)).1 e ⟨h1, h2⟩
  have e := congrArg (fun x => x &&& 127) (hh : w &&& fixN (formN op) = baseN op)
  simp only [Nat.and_assoc, fix_low _ hin h0] at e
  rw [show (127 : Nat) = 2 ^ 7 - 1 from rfl, Nat.and_two_pow_sub_one_eq_mod, Nat.and_two_pow_sub_one_eq_mod] at e
  exact e.symm
theorem rinsn_step {w op k : Nat} (hw : w < 4294967296) (h1 : 1 ≤ op) (h2 : op ≤ 94) (hk : 1500 ≤ k) :
    quoinref04_Insn.l0 (k + 1) (w : Int) ((w % 128 : Nat) : Int) (op : Int) = if hits w op then some (ansN op w) else quoinref04_Insn.l0 k (w : Int) ((w % 128 : Nat) : Int) (((op + 1 : Nat)) : Int) := by
  have hb := up (quoinref03_Bits.mono _) (rbits_tells op (by omega) h1) k (by omega)
  have e2 : ((op : Int) + 1) % 256 = ((op + 1 : Nat) : Int) := by rw [Int.emod_eq_of_lt (by omega) (by omega)]; rfl
  have em : Int.tmod ((baseN op : Nat) : Int) 128 = ((baseN op % 128 : Nat) : Int) := rfl
  simp only [quoinref04_Insn.l0]
  rw [if_pos (by omega), hb, Option.bind_some, em, e2]
  by_cases h : hits w op
  · rw [if_pos (by rw [low_code h1 h2 h]), read_tells hw h1 h2 hk, Option.bind_some, if_pos h]
    simp only [decide_eq_true h]
    rw [if_pos trivial]
    rfl
  · rw [if_neg h, read_tells hw h1 h2 hk, Option.bind_some]
    simp only [decide_eq_false h]
    split <;> first | rfl | (rw [if_neg (by decide)])
theorem rinsn_none_l {w : Nat} (hw : w < 4294967296) : ∀ m op k : Nat, op + m = 95 → 1 ≤ op → 1501 + m ≤ k → (∀ o, op ≤ o → o ≤ 94 → ¬ hits w o) → quoinref04_Insn.l0 k (w : Int) ((w % 128 : Nat) : Int) (op : Int) = some (0, 0, 0, 0, 0, 40)
  | 0, op, k, hm, h1, hk, h => by
    obtain ⟨k, rfl⟩ : ∃ m, k = m + 1 := ⟨k - 1, by omega⟩
    simp only [quoinref04_Insn.l0]
    rw [if_neg (by omega)]
  | m + 1, op, k, hm, h1, hk, h => by
    obtain ⟨k, rfl⟩ : ∃ m, k = m + 1 := ⟨k - 1, by omega⟩
    rw [rinsn_step hw h1 (by omega) (by omega), if_neg (h op (by omega) (by omega))]
    exact rinsn_none_l hw m (op + 1) k (by omega) (by omega) (by omega) fun o a b => h o (by omega) b
theorem rinsn_hit_l {w q : Nat} (hw : w < 4294967296) (hq : q ≤ 94) (hh : hits w q) : ∀ m op k : Nat, op + m = q → 1 ≤ op → 1501 + m ≤ k → (∀ o, op ≤ o → o < q → ¬ hits w o) → quoinref04_Insn.l0 k (w : Int) ((w % 128 : Nat) : Int) (op : Int) = some (ansN q w)
  | 0, op, k, hm, h1, hk, h => by
    obtain ⟨k, rfl⟩ : ∃ m, k = m + 1 := ⟨k - 1, by omega⟩
    obtain rfl : op = q := by omega
    rw [rinsn_step hw h1 hq (by omega), if_pos hh]
  | m + 1, op, k, hm, h1, hk, h => by
    obtain ⟨k, rfl⟩ : ∃ m, k = m + 1 := ⟨k - 1, by omega⟩
    rw [rinsn_step hw h1 (by omega) (by omega), if_neg (h op (by omega) (by omega))]
    exact rinsn_hit_l hw hq hh m (op + 1) k (by omega) (by omega) (by omega) fun o a b => h o (by omega) b
theorem rinsn_hit {w q : Nat} (hw : w < 4294967296) (h1 : 1 ≤ q) (h2 : q ≤ 94) (hh : hits w q) {k : Nat} (hk : 1600 ≤ k) : quoinref04_Insn.f k (w : Int) = some (ansN q w) := by
  have e : Int.tmod (w : Int) 128 = ((w % 128 : Nat) : Int) := rfl
  unfold quoinref04_Insn.f
  rw [e]
  exact rinsn_hit_l hw h2 hh (q - 1) 1 k (by omega) (by decide) (by omega) fun o a b x => by have := hits_one h1 h2 a (by omega) hh x; omega
theorem rinsn_none {w : Nat} (hw : w < 4294967296) (h : ∀ op, 1 ≤ op → op ≤ 94 → ¬ hits w op) {k : Nat} (hk : 1600 ≤ k) : quoinref04_Insn.f k (w : Int) = some (0, 0, 0, 0, 0, 40) := by
  have e : Int.tmod (w : Int) 128 = ((w % 128 : Nat) : Int) := rfl
  unfold quoinref04_Insn.f
  rw [e]
  exact rinsn_none_l hw 94 1 k (by decide) (by decide) (by omega) fun o a b => h o a b
end Go.Proofs.YtpijiohiohiilaaDoor.DecR
