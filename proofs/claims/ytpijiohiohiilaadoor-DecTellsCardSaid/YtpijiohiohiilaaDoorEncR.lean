/- What the reference quoinref03 computes, told in plain numbers: the same as the package enc. -/
import Derived.Test.YtpijiohiohiilaaDoorDQuoinref03
import Derived.Test.YtpijiohiohiilaaDoorGRef
import Derived.Test.YtpijiohiohiilaaDoorFormB
import Derived.Test.YtpijiohiohiilaaDoorCheckM
import Derived.Test.YtpijiohiohiilaaDoorRefG
namespace Go.Proofs.YtpijiohiohiilaaDoor.EncR
set_option linter.unusedVariables false
set_option linter.unusedSimpArgs false
set_option maxRecDepth 100000
open Go Go.RowKit Go.Proofs.YtpijiohiohiilaaDoor.D Go.Proofs.YtpijiohiohiilaaDoor.InsnF Go.Proofs.YtpijiohiohiilaaDoor.CheckF Go.Proofs.YtpijiohiohiilaaDoor.CheckR Go.Proofs.YtpijiohiohiilaaDoor.BitL Go.Proofs.YtpijiohiohiilaaDoor.BitF Go.Proofs.YtpijiohiohiilaaDoor.EncF Go.Proofs.YtpijiohiohiilaaDoor.DecF Go.Proofs.YtpijiohiohiilaaDoor.RefF Go.Proofs.YtpijiohiohiilaaDoor.RefG Go.Proofs.YtpijiohiohiilaaDoorW.PrintWords Go.Proofs.YtpijiohiohiilaaDoorW.PrintMore
theorem rbits_tells : ∀ op : Nat, op < 95 → 1 ≤ op → quoinref03_Bits.f 200 (op : Int) = some ((baseN op : Nat) : Int) := by decide +kernel
/-- A form's places, both: the same. -/
theorem rplaces_same : ∀ c : Nat, c < 256 → (match enc_Places.f 60 (c : Int), quoinref03_Places.f 60 (c : Int) with | some p, some q => p == q && decide (p.1.length < 50) | _, _ => false) = true := by decide +kernel
theorem form_lt : ∀ c ∈ formsL, c < 256 := by decide
theorem rplaces_tells {c : Nat} (hc : c ∈ formsL) (h0 : c ≠ 0) : quoinref03_Places.f 60 (c : Int) = some (ints (placesN c), 0) := by
  have h := rplaces_same c (form_lt c hc)
  rw [places_tells c hc h0] at h
  cases hq : quoinref03_Places.f 60 (c : Int) with
  | none => rw [hq] at h; cases h
  | some q =>
    rw [hq] at h
    simp only [Bool.and_eq_true, beq_iff_eq] at h
    rw [h.1]
/-- A number's bits, made by adding. -/
theorem code_cases : ∀ c ∈ formsL, c ≠ 0 → ∀ imm : Int, okNum c imm = true → -2097152 ≤ imm ∧ imm ≤ 2097152 ∧
    (if (if c = 74 ∨ c = 66 then imm / 2 else imm) < 0 then (if c = 74 ∨ c = 66 then imm / 2 else imm) + ((2 ^ (placesN c).length : Nat) : Int) else (if c = 74 ∨ c = 66 then imm / 2 else imm)) = ((codeN c imm : Nat) : Int) ∧
    (c = 74 ∨ c = 66 → imm % 2 = 0) := by
  intro c hc h0 n hn
  simp only [formsL, List.mem_cons, List.not_mem_nil, or_false] at hc
  rcases hc with rfl | rfl | rfl | rfl | rfl | rfl | rfl | rfl | rfl | rfl | rfl | rfl | rfl | rfl | rfl | rfl
  · exact absurd rfl h0
  all_goals
    (unfold okNum at hn
     rw [decide_eq_true_eq] at hn
     simp only [span] at hn
     unfold codeN
     simp only [placesN, List.length_append, List.length_cons, List.length_nil, List.length_range', Nat.reduceAdd, Nat.reducePow, Nat.reduceEqDiff, or_false, false_or, or_true, true_or, if_true, if_false, or_self]
     refine ⟨by omega, by omega, by split <;> omega, fun h => by first | exact h.elim | omega⟩)
/-- A word, made by adding. -/
theorem word_sum {op d s t : Nat} {imm : Int} (h1 : 1 ≤ op) (h2 : op ≤ 94) (hd : d < 32) (hs : s < 32) (ht : t < 32)
    (bd : (regs (formN op)).1 = false → d = 0) (bs : (regs (formN op)).2.1 = false → s = 0) (bt : (regs (formN op)).2.2 = false → t = 0) :
    baseN op + d * 128 + s * 32768 + t * 1048576 + scat (codeN (formN op) imm) 0 (placesN (formN op)) = wordN op d s t imm := by
  have hin := form_in op (by omega)
  have h0 : formN op ≠ 0 := fun e => (form_zero op (by omega)).1 e ⟨h1, h2⟩
  obtain ⟨hnd, hlt, hlen⟩ := places_ok _ hin
  have hS := scat_lt (codeN (formN op) imm) (n := 32) (placesN (formN op)) 0 hlt
  unfold wordN
  generalize hE : scat (codeN (formN op) imm) 0 (placesN (formN op)) = E at *
  have far : ∀ (b b' : Bool) (p p' j : Nat), (p + 5 ≤ p' ∨ p' + 5 ≤ p) → inR b p j = true → inR b' p' j = false := by
    intro b b' p p' j hpp hI
    unfold inR at *
    simp only [Bool.and_eq_true, decide_eq_true_eq] at hI
    rw [Bool.eq_false_iff]
    simp only [ne_eq, Bool.and_eq_true, decide_eq_true_eq]
    omega
  have key : ∀ j, ((baseN op).testBit j = true → inR (regs (formN op)).1 7 j = false ∧ inR (regs (formN op)).2.1 15 j = false ∧ inR (regs (formN op)).2.2 20 j = false ∧ E.testBit j = false) ∧
      (E.testBit j = true → inR (regs (formN op)).1 7 j = false ∧ inR (regs (formN op)).2.1 15 j = false ∧ inR (regs (formN op)).2.2 20 j = false) := by
    intro j
    by_cases hj : j < 32
    · obtain ⟨p1, p2⟩ := parts_of _ hin h0 j hj
      constructor
      · intro hb
        have hf : (fixN (formN op)).testBit j = true := by
          cases hq : (fixN (formN op)).testBit j with
          | true => rfl
          | false => rw [base_bit h1 h2 j hq] at hb; cases hb
        rw [hf, eq_comm, Bool.not_eq_true'] at p1
        simp only [Bool.or_eq_false_iff, decide_eq_false_iff_not] at p1
        exact ⟨p1.1, p1.2.1, p1.2.2.1, by rw [← hE]; exact scat_bit_in _ _ _ p1.2.2.2⟩
      · intro hb
        have hm : j ∈ placesN (formN op) := by
          by_cases hm : j ∈ placesN (formN op)
          · exact hm
          · rw [← hE, scat_bit_in _ _ _ hm] at hb; cases hb
        rw [decide_eq_true hm, Bool.true_and] at p2
        simp only [Bool.or_eq_false_iff] at p2
        exact p2
    · constructor
      · intro hb; rw [bit_ge (n := 32) (base_lt op (by omega)) (by omega)] at hb; cases hb
      · intro hb; rw [bit_ge (n := 32) hS (by omega)] at hb; cases hb
  have b1 : ∀ j, (d * 128).testBit j = (inR (regs (formN op)).1 7 j && d.testBit (j - 7)) := shift_bit (p := 7) hd bd
  have b2 : ∀ j, (s * 32768).testBit j = (inR (regs (formN op)).2.1 15 j && s.testBit (j - 15)) := shift_bit (p := 15) hs bs
  have b3 : ∀ j, (t * 1048576).testBit j = (inR (regs (formN op)).2.2 20 j && t.testBit (j - 20)) := shift_bit (p := 20) ht bt
  have e1 : baseN op + d * 128 = baseN op ||| d * 128 := add_eq_or fun j => by
    rw [b1]
    cases hb : (baseN op).testBit j with
    | false => rfl
    | true => rw [((key j).1 hb).1]; rfl
  have e2 : (baseN op ||| d * 128) + s * 32768 = (baseN op ||| d * 128) ||| s * 32768 := add_eq_or fun j => by
    rw [Nat.testBit_or, b1, b2]
    cases hb : (baseN op).testBit j with
    | true => rw [((key j).1 hb).2.1]; simp
    | false =>
      cases ha : inR (regs (formN op)).1 7 j with
      | false => simp
      | true => rw [far _ (regs (formN op)).2.1 7 15 j (by omega) ha]; simp
  have e3 : ((baseN op ||| d * 128) ||| s * 32768) + t * 1048576 = ((baseN op ||| d * 128) ||| s * 32768) ||| t * 1048576 := add_eq_or fun j => by
    rw [Nat.testBit_or, Nat.testBit_or, b1, b2, b3]
    cases hb : (baseN op).testBit j with
    | true => rw [((key j).1 hb).2.2.1]; simp
    | false =>
      cases ha : inR (regs (formN op)).2.2 20 j with
      | false => simp
      | true => rw [far _ (regs (formN op)).1 20 7 j (by omega) ha, far _ (regs (formN op)).2.1 20 15 j (by omega) ha]; simp
  have e4 : (((baseN op ||| d * 128) ||| s * 32768) ||| t * 1048576) + E = (((baseN op ||| d * 128) ||| s * 32768) ||| t * 1048576) ||| E := add_eq_or fun j => by
    rw [Nat.testBit_or, Nat.testBit_or, Nat.testBit_or, b1, b2, b3]
    cases hb : E.testBit j with
    | false => simp
    | true =>
      obtain ⟨q1, q2, q3⟩ := (key j).2 hb
      have hz : (baseN op).testBit j = false := by
        cases hz : (baseN op).testBit j with
        | false => rfl
        | true => rw [((key j).1 hz).2.2.2] at hb; cases hb
      rw [q1, q2, q3, hz]; simp
  rw [e1, e2, e3, e4]
theorem rcoded_tells {op : Nat} {rd rs1 rs2 imm : Int} (hm : mayB op rd rs1 rs2 imm = true) {k : Nat} (hk : 1400 ≤ k) :
    quoinref03_Coded.f k (op : Int) rd rs1 rs2 imm = some ((wordN op rd.toNat rs1.toNat rs2.toNat imm : Nat) : Int) := by
  obtain ⟨d, s, t, rfl, rfl, rfl, hd, hs, ht, bd, bs, bt, h1, h2, hn⟩ := may_parts hm
  simp only [Int.toNat_natCast]
  have ho : op < 256 := by omega
  have hin := form_in op ho
  have h0 : formN op ≠ 0 := fun e => (form_zero op ho).1 e ⟨h1, h2⟩
  obtain ⟨hnd, hlt, hlen⟩ := places_ok _ hin
  have hf := up (quoinref02_Form.mono _) (rform_tells op ho) k (by omega)
  have hpl := up (quoinref03_Places.mono _) (rplaces_tells hin h0) k (by omega)
  have hsum := word_sum (imm := imm) h1 h2 hd hs ht bd bs bt
  have hwl : wordN op d s t imm < 4294967296 := word_lt h1 h2 hd hs ht
  have hC := codeN_lt (formN op) imm
  have hC32 := pow_le_32 (n := (placesN (formN op)).length) (by omega)
  obtain ⟨i1, i2, i3, i4⟩ := code_cases _ hin h0 imm hn
  have hll : (ints (placesN (formN op))).length = (placesN (formN op)).length := by simp
  obtain ⟨k, rfl⟩ : ∃ m, k = m + 2 := ⟨k - 2, by omega⟩
  have fin : ∀ X : Int, X = (if formN op = 74 ∨ formN op = 66 then imm / 2 else imm) →
      quoinref03_Coded.j1 (k + 1) (ints (placesN (formN op))) X (op : Int) (d : Int) (s : Int) (t : Int) imm = some ((wordN op d s t imm : Nat) : Int) := by
    intro X hX
    rw [← hX] at i3
    have hXr : -2097152 ≤ X ∧ X ≤ 2097152 := by rw [hX]; split <;> omega
    have hsc := rscatter_ok (k := k) hlt hnd (by omega) hC (by omega)
    have hbt := up (quoinref03_Bits.mono _) (rbits_tells op (by omega) h1) k (by omega)
    have last : (some ((((((((((baseN op : Nat) : Int) + ((wrap64 ((d : Int) * 128)) % 4294967296)) % 4294967296) + ((wrap64 ((s : Int) * 32768)) % 4294967296)) % 4294967296) + ((wrap64 ((t : Int) * 1048576)) % 4294967296)) % 4294967296) + ((scat (codeN (formN op) imm) 0 (placesN (formN op)) : Nat) : Int)) % 4294967296)) = some ((wordN op d s t imm : Nat) : Int) := by
      congr 1
      rw [BitF.w64 (x := (d : Int) * 128) (by omega) (by omega), BitF.w64 (x := (s : Int) * 32768) (by omega) (by omega), BitF.w64 (x := (t : Int) * 1048576) (by omega) (by omega)]
      generalize scat (codeN (formN op) imm) 0 (placesN (formN op)) = E at *
      generalize wordN op d s t imm = W at *
      generalize baseN op = B at *
      omega
    simp only [quoinref03_Coded.j1]
    by_cases hneg : X < 0
    · rw [if_pos hneg] at i3
      rw [if_pos hneg, hll, two_ok (by omega) (by omega), Option.bind_some, BitF.w64 (by omega) (by omega), i3, Int.emod_eq_of_lt (by omega) (by omega), hsc, Option.bind_some, hbt, Option.bind_some]
      exact last
    · rw [if_neg hneg] at i3
      rw [if_neg hneg, i3, Int.emod_eq_of_lt (by omega) (by omega), hsc, Option.bind_some, hbt, Option.bind_some]
      exact last
  unfold quoinref03_Coded.f
  rw [hf, Option.bind_some]
  simp only []
  rw [hpl, Option.bind_some]
  simp only []
  by_cases h74 : formN op = 74
  · rw [if_pos (by omega)]
    simp only [quoinref03_Coded.j0]
    rw [if_pos trivial]
    refine fin _ ?_
    have := i4 (Or.inl h74)
    rw [if_pos (Or.inl h74), Int.tdiv_eq_ediv_of_dvd (by omega), BitF.w64 (by omega) (by omega)]
  · rw [if_neg (by omega)]
    simp only [quoinref03_Coded.j0]
    by_cases h66 : formN op = 66
    · rw [if_pos (by rw [h66]; rfl)]
      refine fin _ ?_
      have := i4 (Or.inr h66)
      rw [if_pos (Or.inr h66), Int.tdiv_eq_ediv_of_dvd (by omega), BitF.w64 (by omega) (by omega)]
    · have e66 : ((formN op : Int) == 66) = false := by rw [beq_eq_false_iff_ne]; omega
      rw [e66, if_neg (by decide)]
      exact fin _ (by rw [if_neg (by omega)])
end Go.Proofs.YtpijiohiohiilaaDoor.EncR
