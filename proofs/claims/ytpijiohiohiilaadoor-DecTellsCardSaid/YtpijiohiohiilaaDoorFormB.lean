/- The bits of instructions' words, form by form: which are fixed, which are fields; what is encoded is decoded, and what is decoded is encoded. No function of the program in sight but those that EncF tells of. -/
import Derived.Test.YtpijiohiohiilaaDoorEncF
namespace Go.Proofs.YtpijiohiohiilaaDoor.DecF
set_option linter.unusedVariables false
set_option linter.unusedSimpArgs false
set_option maxRecDepth 100000
set_option linter.unusedSectionVars false
open Go Go.RowKit Go.Proofs.YtpijiohiohiilaaDoor.D Go.Proofs.YtpijiohiohiilaaDoor.InsnF Go.Proofs.YtpijiohiohiilaaDoor.CheckF Go.Proofs.YtpijiohiohiilaaDoor.BitL Go.Proofs.YtpijiohiohiilaaDoor.BitF Go.Proofs.YtpijiohiohiilaaDoor.EncF Go.Proofs.YtpijiohiohiilaaDoorW.PrintWords Go.Proofs.YtpijiohiohiilaaDoorW.PrintMore
/-- The bits that a form leaves fixed. -/
def fixN : Nat → Nat
  | 85 => 127 | 74 => 127 | 66 => 28799 | 73 => 28799 | 76 => 28799 | 83 => 28799 | 54 => 4227887231 | 53 => 4261441663 | 82 => 4261441663
  | 70 => 4027580415 | 78 => 4294967295 | 67 => 28799 | 90 => 28799 | 108 => 4193284223 | 65 => 4160778367 | _ => 0
theorem fix_lt : ∀ c ∈ formsL, fixN c < 4294967296 := by decide +kernel
/-- A number from its bits. -/
def numV (c v : Nat) : Int := if c = 73 ∨ c = 76 ∨ c = 83 then sgn v (placesN c).length else if c = 74 ∨ c = 66 then 2 * sgn v (placesN c).length else (v : Int)
def numN (c w : Nat) : Int := numV c (gath w 0 (placesN c))
theorem sgn_range {v n : Nat} (hn : n ≤ 32) (hv : v < 2 ^ n) : -4294967296 ≤ sgn v n ∧ sgn v n < 4294967296 := by
  have := pow_le_32 hn
  unfold sgn
  rw [← cast_pow n]
  split <;> omega
/-- A register's field. -/
def regN (b : Bool) (p w : Nat) : Nat := if b then takeN w p 5 else 0
/-- The word is this instruction, fields apart. -/
def hits (w op : Nat) : Prop := w &&& fixN (formN op) = baseN op
instance (w op : Nat) : Decidable (hits w op) := by unfold hits; infer_instance
def ansN (op w : Nat) : Int × Int × Int × Int × Int × Int :=
  ((op : Int), ((regN (regs (formN op)).1 7 w : Nat) : Int), ((regN (regs (formN op)).2.1 15 w : Nat) : Int), ((regN (regs (formN op)).2.2 20 w : Nat) : Int), numN (formN op) w, 0)
theorem apart : ∀ op < 95, ∀ o < 95, 1 ≤ op → 1 ≤ o → baseN op &&& fixN (formN o) = baseN o &&& fixN (formN op) → op = o := by decide +kernel
theorem hits_one {w op o : Nat} (h1 : 1 ≤ op) (h2 : op ≤ 94) (g1 : 1 ≤ o) (g2 : o ≤ 94) (hh : hits w op) (hg : hits w o) : op = o := by
  refine apart op (by omega) o (by omega) h1 g1 ?_
  rw [← hh, ← hg, Nat.and_assoc, Nat.and_assoc, Nat.and_comm (fixN _)]
theorem insn_cases (w : Nat) : (∃ op, 1 ≤ op ∧ op ≤ 94 ∧ hits w op) ∨ (∀ op, 1 ≤ op → op ≤ 94 → ¬ hits w op) := by
  by_cases h : ∃ op, 1 ≤ op ∧ op ≤ 94 ∧ hits w op
  · exact .inl h
  · exact .inr fun op a b c => h ⟨op, a, b, c⟩
/-! ### The bits, one by one -/
def inR (b : Bool) (p j : Nat) : Bool := b && (decide (p ≤ j) && decide (j < p + 5))
theorem parts_of : ∀ c ∈ formsL, c ≠ 0 → ∀ j < 32, (fixN c).testBit j = !(inR (regs c).1 7 j || (inR (regs c).2.1 15 j || (inR (regs c).2.2 20 j || decide (j ∈ placesN c)))) ∧
    (decide (j ∈ placesN c) && (inR (regs c).1 7 j || (inR (regs c).2.1 15 j || inR (regs c).2.2 20 j))) = false := by decide +kernel
theorem base_fix : ∀ op < 95, 1 ≤ op → baseN op &&& fixN (formN op) = baseN op := by decide +kernel
theorem low_two : ∀ op < 95, 1 ≤ op → baseN op &&& 3 = 3 := by decide +kernel
theorem shift_bit {d p : Nat} {b : Bool} (hd : d < 32) (hb : b = false → d = 0) (j : Nat) : (d * 2 ^ p).testBit j = (inR b p j && d.testBit (j - p)) := by
  rw [Nat.testBit_mul_two_pow]
  unfold inR
  by_cases h1 : p ≤ j
  · by_cases h2 : j < p + 5
    · cases b
      · rw [hb rfl]; simp
      · simp [h1, h2]
    · have : d.testBit (j - p) = false := bit_ge (n := 5) hd (by omega)
      simp [this]
  · simp [h1]
theorem scat_bit_in (v : Nat) (ps : List Nat) (j : Nat) (h : j ∉ ps) : (scat v 0 ps).testBit j = false := by
  rw [Bool.eq_false_iff]; intro hb
  obtain ⟨m, p, hm, rfl, _⟩ := (scat_bit v ps 0 j).1 hb
  exact h (List.mem_of_getElem? hm)
theorem gath_congr {w w' : Nat} : ∀ (ps : List Nat) (i : Nat), (∀ p ∈ ps, w.testBit p = w'.testBit p) → gath w i ps = gath w' i ps
  | [], i, h => rfl
  | p :: ps, i, h => by rw [gath, gath, h p (by simp), gath_congr ps (i + 1) fun q hq => h q (by simp [hq])]
theorem word_bit {op d s t : Nat} {imm : Int} (h1 : 1 ≤ op) (h2 : op ≤ 94) (hd : d < 32) (hs : s < 32) (ht : t < 32)
    (bd : (regs (formN op)).1 = false → d = 0) (bs : (regs (formN op)).2.1 = false → s = 0) (bt : (regs (formN op)).2.2 = false → t = 0) (j : Nat) :
    (wordN op d s t imm).testBit j = ((baseN op).testBit j || (inR (regs (formN op)).1 7 j && d.testBit (j - 7) || (inR (regs (formN op)).2.1 15 j && s.testBit (j - 15) || (inR (regs (formN op)).2.2 20 j && t.testBit (j - 20) || (scat (codeN (formN op) imm) 0 (placesN (formN op))).testBit j)))) := by
  unfold wordN
  rw [Nat.testBit_or, Nat.testBit_or, Nat.testBit_or, Nat.testBit_or, show d * 128 = d * 2 ^ 7 from rfl, show s * 32768 = s * 2 ^ 15 from rfl, show t * 1048576 = t * 2 ^ 20 from rfl,
    shift_bit hd bd, shift_bit hs bs, shift_bit ht bt]
  simp only [Bool.or_assoc]
theorem word_lt {op d s t : Nat} {imm : Int} (h1 : 1 ≤ op) (h2 : op ≤ 94) (hd : d < 32) (hs : s < 32) (ht : t < 32) : wordN op d s t imm < 4294967296 := by
  have hin := form_in op (by omega)
  obtain ⟨hnd, hlt, hlen⟩ := places_ok _ hin
  have hS := scat_lt (codeN (formN op) imm) (n := 32) (placesN (formN op)) 0 hlt
  exact or_lt (or_lt (or_lt (or_lt (base_lt op (by omega)) (by omega)) (by omega)) (by omega)) hS
theorem numV_ok : ∀ c ∈ formsL, c ≠ 0 → ∀ v : Nat, v < 2 ^ (placesN c).length → okNum c (numV c v) = true ∧ codeN c (numV c v) = v := by
  intro c hc h0 v hv
  simp only [formsL, List.mem_cons, List.not_mem_nil, or_false] at hc
  have hh : ∀ n : Nat, sgn v n = if v < 2 ^ (n - 1) then (v : Int) else (v : Int) - ((2 ^ n : Nat) : Int) := fun n => by unfold sgn; rw [cast_pow]
  rcases hc with rfl | rfl | rfl | rfl | rfl | rfl | rfl | rfl | rfl | rfl | rfl | rfl | rfl | rfl | rfl | rfl
  · exact absurd rfl h0
  all_goals
    (simp only [placesN, List.length_append, List.length_cons, List.length_nil, List.length_range', Nat.reduceAdd, Nat.reducePow] at hv
     unfold okNum codeN numV
     rw [decide_eq_true_eq]
     simp only [hh, span, placesN, List.length_append, List.length_cons, List.length_nil, List.length_range', Nat.reduceAdd, Nat.reducePow, Nat.reduceSub, Nat.reduceEqDiff, or_false, false_or, or_true, true_or, if_true, if_false, or_self]
     first
     | omega
     | (split <;> omega))
theorem codeN_ok : ∀ c ∈ formsL, c ≠ 0 → ∀ n : Int, okNum c n = true → numV c (codeN c n) = n := by
  intro c hc h0 n hn
  simp only [formsL, List.mem_cons, List.not_mem_nil, or_false] at hc
  have hh : ∀ v n : Nat, sgn v n = if v < 2 ^ (n - 1) then (v : Int) else (v : Int) - ((2 ^ n : Nat) : Int) := fun v n => by unfold sgn; rw [cast_pow]
  rcases hc with rfl | rfl | rfl | rfl | rfl | rfl | rfl | rfl | rfl | rfl | rfl | rfl | rfl | rfl | rfl | rfl
  · exact absurd rfl h0
  all_goals
    (unfold okNum at hn
     rw [decide_eq_true_eq] at hn
     simp only [span] at hn
     unfold codeN numV
     simp only [hh, placesN, List.length_append, List.length_cons, List.length_nil, List.length_range', Nat.reduceAdd, Nat.reducePow, Nat.reduceSub, Nat.reduceEqDiff, or_false, false_or, or_true, true_or, if_true, if_false, or_self]
     first
     | omega
     | (split <;> omega))
theorem bool_le {a b : Bool} (h : a = true → b = true) (hb : b = false) : a = false := by cases a with | false => rfl | true => rw [h rfl] at hb; cases hb
theorem base_bit {op : Nat} (h1 : 1 ≤ op) (h2 : op ≤ 94) (j : Nat) (h : (fixN (formN op)).testBit j = false) : (baseN op).testBit j = false := by
  rw [← base_fix op (by omega) h1, Nat.testBit_and, h, Bool.and_false]
/-- What an instruction that may be is, as numbers. -/
theorem may_parts {op : Nat} {rd rs1 rs2 imm : Int} (hm : mayB op rd rs1 rs2 imm = true) : ∃ d s t : Nat, rd = d ∧ rs1 = s ∧ rs2 = t ∧ d < 32 ∧ s < 32 ∧ t < 32 ∧
    ((regs (formN op)).1 = false → d = 0) ∧ ((regs (formN op)).2.1 = false → s = 0) ∧ ((regs (formN op)).2.2 = false → t = 0) ∧ 1 ≤ op ∧ op ≤ 94 ∧ okNum (formN op) imm = true := by
  unfold mayB at hm
  simp only [Bool.and_eq_true, decide_eq_true_eq] at hm
  obtain ⟨hop, q1, q2, q3, q4⟩ := hm
  obtain ⟨a1, a2, a3⟩ := okReg_range q1
  obtain ⟨b1, b2, b3⟩ := okReg_range q2
  obtain ⟨c1, c2, c3⟩ := okReg_range q3
  obtain ⟨d, rfl⟩ := Int.eq_ofNat_of_zero_le a1
  obtain ⟨s, rfl⟩ := Int.eq_ofNat_of_zero_le b1
  obtain ⟨t, rfl⟩ := Int.eq_ofNat_of_zero_le c1
  exact ⟨d, s, t, rfl, rfl, rfl, by omega, by omega, by omega, fun e => by have := a3 e; omega, fun e => by have := b3 e; omega, fun e => by have := c3 e; omega, hop.1, hop.2, q4⟩
section
variable {op d s t : Nat} {imm : Int} (h1 : 1 ≤ op) (h2 : op ≤ 94) (hd : d < 32) (hs : s < 32) (ht : t < 32)
    (bd : (regs (formN op)).1 = false → d = 0) (bs : (regs (formN op)).2.1 = false → s = 0) (bt : (regs (formN op)).2.2 = false → t = 0)
include h1 h2 hd hs ht bd bs bt
theorem word_hits : hits (wordN op d s t imm) op := by
  have hin := form_in op (by omega)
  have h0 : formN op ≠ 0 := fun e => (form_zero op (by omega)).1 e ⟨h1, h2⟩
  unfold hits
  refine Nat.eq_of_testBit_eq fun j => ?_
  rw [Nat.testBit_and, word_bit h1 h2 hd hs ht bd bs bt]
  by_cases hj : j < 32
  · obtain ⟨p1, p2⟩ := parts_of _ hin h0 j hj
    by_cases hf : (fixN (formN op)).testBit j = true
    · rw [hf] at p1
      rw [eq_comm, Bool.not_eq_true'] at p1
      simp only [Bool.or_eq_false_iff, decide_eq_false_iff_not] at p1
      obtain ⟨e1, e2, e3, e4⟩ := p1
      rw [hf, e1, e2, e3, scat_bit_in _ _ _ e4]
      simp
    · have hf := Bool.eq_false_iff.2 hf
      rw [hf, Bool.and_false, base_bit h1 h2 j hf]
  · rw [bit_ge (n := 32) (fix_lt _ hin) (by omega), bit_ge (n := 32) (base_lt op (by omega)) (by omega), Bool.and_false]
theorem word_reg_aux (b : Bool) (p x : Nat) (hx : x < 32) (hb : b = false → x = 0) (hp : p + 5 ≤ 32)
    (hbit : ∀ j < 32, inR b p j = true → (wordN op d s t imm).testBit j = x.testBit (j - p)) : regN b p (wordN op d s t imm) = x := by
  unfold regN
  cases b with
  | false => rw [hb rfl]; rfl
  | true =>
    rw [if_pos rfl]
    refine Nat.eq_of_testBit_eq fun i => ?_
    rw [takeN_bit]
    by_cases hi : i < 5
    · rw [hbit (i + p) (by omega) (by unfold inR; simp; omega), Nat.add_sub_cancel]; simp [hi]
    · rw [bit_ge (n := 5) hx (by omega)]; simp [hi]
theorem word_regs : regN (regs (formN op)).1 7 (wordN op d s t imm) = d ∧ regN (regs (formN op)).2.1 15 (wordN op d s t imm) = s ∧ regN (regs (formN op)).2.2 20 (wordN op d s t imm) = t := by
  have hin := form_in op (by omega)
  have h0 : formN op ≠ 0 := fun e => (form_zero op (by omega)).1 e ⟨h1, h2⟩
  have key : ∀ j < 32, (inR (regs (formN op)).1 7 j || (inR (regs (formN op)).2.1 15 j || inR (regs (formN op)).2.2 20 j)) = true → (baseN op).testBit j = false ∧ (scat (codeN (formN op) imm) 0 (placesN (formN op))).testBit j = false := by
    intro j hj hI
    obtain ⟨p1, p2⟩ := parts_of _ hin h0 j hj
    rw [hI, Bool.and_true, decide_eq_false_iff_not] at p2
    refine ⟨base_bit h1 h2 j ?_, scat_bit_in _ _ _ p2⟩
    rw [p1, Bool.not_eq_false']
    revert hI
    cases inR (regs (formN op)).1 7 j <;> cases inR (regs (formN op)).2.1 15 j <;> cases inR (regs (formN op)).2.2 20 j <;> simp
  have far : ∀ (b b' : Bool) (p p' j : Nat), (p + 5 ≤ p' ∨ p' + 5 ≤ p) → inR b p j = true → inR b' p' j = false := by
    intro b b' p p' j hpp hI
    unfold inR at *
    simp only [Bool.and_eq_true, decide_eq_true_eq] at hI
    rw [Bool.eq_false_iff]
    simp only [ne_eq, Bool.and_eq_true, decide_eq_true_eq]
    omega
  refine ⟨word_reg_aux h1 h2 hd hs ht bd bs bt _ _ _ hd bd (by omega) fun j hj hI => ?_, word_reg_aux h1 h2 hd hs ht bd bs bt _ _ _ hs bs (by omega) fun j hj hI => ?_, word_reg_aux h1 h2 hd hs ht bd bs bt _ _ _ ht bt (by omega) fun j hj hI => ?_⟩
  · obtain ⟨k1, k2⟩ := key j hj (by rw [hI]; rfl)
    rw [word_bit h1 h2 hd hs ht bd bs bt, k1, k2, hI, far _ (regs (formN op)).2.1 7 15 j (by omega) hI, far _ (regs (formN op)).2.2 7 20 j (by omega) hI]; simp
  · obtain ⟨k1, k2⟩ := key j hj (by rw [hI]; simp)
    rw [word_bit h1 h2 hd hs ht bd bs bt, k1, k2, hI, far _ (regs (formN op)).1 15 7 j (by omega) hI, far _ (regs (formN op)).2.2 15 20 j (by omega) hI]; simp
  · obtain ⟨k1, k2⟩ := key j hj (by rw [hI]; simp)
    rw [word_bit h1 h2 hd hs ht bd bs bt, k1, k2, hI, far _ (regs (formN op)).1 20 7 j (by omega) hI, far _ (regs (formN op)).2.1 20 15 j (by omega) hI]; simp
theorem word_num (hn : okNum (formN op) imm = true) : numN (formN op) (wordN op d s t imm) = imm := by
  have hin := form_in op (by omega)
  have h0 : formN op ≠ 0 := fun e => (form_zero op (by omega)).1 e ⟨h1, h2⟩
  obtain ⟨hnd, hlt, hlen⟩ := places_ok _ hin
  unfold numN
  rw [gath_congr (w' := scat (codeN (formN op) imm) 0 (placesN (formN op))) (placesN (formN op)) 0 ?_, gath_scat hnd (codeN_lt _ _), codeN_ok _ hin h0 _ hn]
  intro p hp
  have hj := hlt p hp
  obtain ⟨p1, p2⟩ := parts_of _ hin h0 p hj
  rw [decide_eq_true hp, Bool.true_and] at p2
  have hb : (baseN op).testBit p = false := base_bit h1 h2 p (by rw [p1, Bool.not_eq_false', decide_eq_true hp]; simp)
  simp only [Bool.or_eq_false_iff] at p2
  obtain ⟨e1, e2, e3⟩ := p2
  rw [word_bit h1 h2 hd hs ht bd bs bt, hb, e1, e2, e3]
  simp
end
/-- What is encoded is decoded. -/
theorem dec_enc {op : Nat} {rd rs1 rs2 imm : Int} (hm : mayB op rd rs1 rs2 imm = true) :
    wordN op rd.toNat rs1.toNat rs2.toNat imm < 4294967296 ∧ hits (wordN op rd.toNat rs1.toNat rs2.toNat imm) op ∧ ansN op (wordN op rd.toNat rs1.toNat rs2.toNat imm) = ((op : Int), rd, rs1, rs2, imm, 0) := by
  obtain ⟨d, s, t, rfl, rfl, rfl, hd, hs, ht, bd, bs, bt, h1, h2, hn⟩ := may_parts hm
  simp only [Int.toNat_natCast]
  refine ⟨word_lt h1 h2 hd hs ht, word_hits h1 h2 hd hs ht bd bs bt, ?_⟩
  obtain ⟨e1, e2, e3⟩ := word_regs (imm := imm) h1 h2 hd hs ht bd bs bt
  unfold ansN
  rw [e1, e2, e3, word_num h1 h2 hd hs ht bd bs bt hn]
theorem regN_ok (b : Bool) (p w : Nat) : okReg b ((regN b p w : Nat) : Int) = true ∧ regN b p w < 32 ∧ (b = false → regN b p w = 0) := by
  unfold okReg regN
  cases b with
  | false => exact ⟨rfl, Nat.lt_of_sub_eq_succ (n := 0) rfl, fun _ => rfl⟩
  | true =>
    have : takeN w p 5 < 32 := takeN_lt w p 5
    rw [if_pos rfl, decide_eq_true_eq]
    refine ⟨?_, this, fun e => by cases e⟩
    by_cases h0 : ((takeN w p 5 : Nat) : Int) = 0
    · exact .inl h0
    · exact .inr ⟨rfl, by omega, by omega⟩
/-- What is decoded is encoded. -/
theorem enc_dec {op w : Nat} (hw : w < 4294967296) (h1 : 1 ≤ op) (h2 : op ≤ 94) (hh : hits w op) :
    mayB op ((regN (regs (formN op)).1 7 w : Nat) : Int) ((regN (regs (formN op)).2.1 15 w : Nat) : Int) ((regN (regs (formN op)).2.2 20 w : Nat) : Int) (numN (formN op) w) = true ∧
    wordN op (regN (regs (formN op)).1 7 w) (regN (regs (formN op)).2.1 15 w) (regN (regs (formN op)).2.2 20 w) (numN (formN op) w) = w := by
  have hin := form_in op (by omega)
  have h0 : formN op ≠ 0 := fun e => (form_zero op (by omega)).1 e ⟨h1, h2⟩
  obtain ⟨hnd, hlt, hlen⟩ := places_ok _ hin
  have hg := gath_lt w (placesN (formN op)) 0
  rw [Nat.zero_add] at hg
  obtain ⟨n1, n2⟩ := numV_ok _ hin h0 _ hg
  obtain ⟨a1, a2, a3⟩ := regN_ok (regs (formN op)).1 7 w
  obtain ⟨b1, b2, b3⟩ := regN_ok (regs (formN op)).2.1 15 w
  obtain ⟨c1, c2, c3⟩ := regN_ok (regs (formN op)).2.2 20 w
  refine ⟨?_, ?_⟩
  · unfold mayB
    rw [a1, b1, c1, decide_eq_true (⟨h1, h2⟩ : 1 ≤ op ∧ op ≤ 94)]
    exact n1
  · refine Nat.eq_of_testBit_eq fun j => ?_
    rw [word_bit h1 h2 a2 b2 c2 a3 b3 c3, show codeN (formN op) (numN (formN op) w) = gath w 0 (placesN (formN op)) from n2, scat_gath]
    by_cases hj : j < 32
    · obtain ⟨p1, p2⟩ := parts_of _ hin h0 j hj
      have hb : (baseN op).testBit j = (w.testBit j && (fixN (formN op)).testBit j) := by rw [← Nat.testBit_and, hh]
      have fld : ∀ (b : Bool) (p : Nat), inR b p j = true → (regN b p w).testBit (j - p) = w.testBit j := by
        intro b p hI
        unfold inR at hI
        simp only [Bool.and_eq_true, decide_eq_true_eq] at hI
        unfold regN
        rw [if_pos hI.1, takeN_bit, show j - p + p = j from by omega, decide_eq_true (by omega : j - p < 5), Bool.true_and]
      have f1 := fld (regs (formN op)).1 7
      have f2 := fld (regs (formN op)).2.1 15
      have f3 := fld (regs (formN op)).2.2 20
      rw [hb, p1]
      cases e1 : inR (regs (formN op)).1 7 j <;> cases e2 : inR (regs (formN op)).2.1 15 j <;> cases e3 : inR (regs (formN op)).2.2 20 j <;> cases e4 : decide (j ∈ placesN (formN op)) <;> simp_all
    · rw [bit_ge (n := 32) (base_lt op (by omega)) (by omega), bit_ge (n := 32) hw (by omega)]
      have e : ∀ (b : Bool) (p : Nat), p + 5 ≤ 32 → inR b p j = false := by
        intro b p hp
        unfold inR
        rw [decide_eq_false (by omega : ¬ j < p + 5), Bool.and_false, Bool.and_false]
      rw [e _ 7 (by omega), e _ 15 (by omega), e _ 20 (by omega)]
      simp
end Go.Proofs.YtpijiohiohiilaaDoor.DecF
