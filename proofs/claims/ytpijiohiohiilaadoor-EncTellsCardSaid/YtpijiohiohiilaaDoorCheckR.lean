/- What the reference of instructions computes, reckoned number by number: the same as the package insn. -/
import Derived.Test.YtpijiohiohiilaaDoorDQuoinref02
import Derived.Test.YtpijiohiohiilaaDoorCheckF
namespace Go.Proofs.YtpijiohiohiilaaDoor.CheckR
set_option linter.unusedVariables false
set_option linter.unusedSimpArgs false
open Go Go.RowKit Go.Proofs.YtpijiohiohiilaaDoor.D Go.Proofs.YtpijiohiohiilaaDoor.InsnF Go.Proofs.YtpijiohiohiilaaDoor.CheckF Go.Proofs.YtpijiohiohiilaaDoorW.PrintWords
theorem rform_tells : ∀ op : Nat, op < 256 → quoinref02_Form.f 200 (op : Int) = some ((formN op : Int), if 1 ≤ op ∧ op ≤ 94 then 0 else 2) := by decide +kernel
theorem shape_tells : ∀ c ∈ formsL, quoinref02_shape.f 20 (c : Int) = some ((regs c).1, (regs c).2.1, (regs c).2.2, (span c).1, (span c).2.1, (span c).2.2) := by
  intro c hc
  simp only [formsL, List.mem_cons, List.not_mem_nil, or_false] at hc
  rcases hc with rfl | rfl | rfl | rfl | rfl | rfl | rfl | rfl | rfl | rfl | rfl | rfl | rfl | rfl | rfl | rfl <;> rfl
theorem by_tells : ∀ c ∈ formsL, (span c).2.2 = 1 ∨ (span c).2.2 = 2 := by decide +kernel
theorem right_tells (has : Bool) (n : Int) : quoinref02_right.f has n = some (okReg has n) := by
  unfold quoinref02_right.f okReg
  by_cases h0 : n ≥ 0
  · rw [if_pos h0]
    by_cases h1 : n ≤ 31
    · rw [if_pos h1]
      cases has
      · rw [if_neg (by decide)]; congr 1; rw [Bool.eq_iff_iff]; simp
      · rw [if_pos rfl]; congr 1; rw [eq_comm, decide_eq_true_eq]
        by_cases hz : n = 0
        · exact .inl hz
        · exact .inr ⟨rfl, by omega, h1⟩
    · rw [if_neg h1]; congr 1; rw [eq_comm, decide_eq_false_iff_not]; rintro (h | h) <;> omega
  · rw [if_neg h0]; congr 1; rw [eq_comm, decide_eq_false_iff_not]; rintro (h | h) <;> omega
theorem rmay_tells {op : Nat} (ho : op < 256) (rd rs1 rs2 imm : Int) {k : Nat} (hk : 200 ≤ k) :
    quoinref02_May.f k (op : Int) rd rs1 rs2 imm = some (mayB op rd rs1 rs2 imm) := by
  have hf := up (quoinref02_Form.mono _) (rform_tells op ho) k hk
  have hs := up (quoinref02_shape.mono _) (shape_tells _ (form_in op ho)) k (by omega)
  have hb := by_tells _ (form_in op ho)
  unfold quoinref02_May.f mayB
  rw [hf, Option.bind_some]
  simp only []
  rw [hs, Option.bind_some]
  by_cases h : 1 ≤ op ∧ op ≤ 94
  · simp only [if_pos h, if_true, right_tells, Option.bind_some, decide_eq_true h, Bool.true_and]
    cases okReg (regs (formN op)).1 rd <;> cases okReg (regs (formN op)).2.1 rs1 <;> cases okReg (regs (formN op)).2.2 rs2 <;> first | rfl | skip
    simp only [if_true, Bool.true_and]
    unfold okNum
    by_cases h1 : imm ≥ (span (formN op)).1
    · rw [if_pos h1]
      by_cases h2 : imm ≤ (span (formN op)).2.1
      · rw [if_pos h2, if_neg (by omega)]
        congr 1
        rw [Bool.eq_iff_iff, beq_iff_eq, decide_eq_true_eq]
        rcases hb with e | e <;> rw [e]
        · constructor
          · intro _; exact ⟨h1, h2, by omega⟩
          · intro _; exact Int.tmod_one _
        · have := tmod_two imm
          rw [Bool.eq_iff_iff, beq_iff_eq, decide_eq_true_eq] at this
          constructor
          · intro q; exact ⟨h1, h2, this.1 q⟩
          · intro q; exact this.2 q.2.2
      · rw [if_neg h2]; congr 1; rw [eq_comm, decide_eq_false_iff_not]; intro q; exact h2 q.2.1
    · rw [if_neg h1]; congr 1; rw [eq_comm, decide_eq_false_iff_not]; intro q; exact h1 q.1
  · simp only [if_neg h, decide_eq_false h, Bool.false_and]
    rfl
theorem rcheck_tells {op : Nat} (ho : op < 256) (rd rs1 rs2 imm : Int) {k : Nat} (hk : 200 ≤ k) :
    quoinref02_Check.f k (op : Int) rd rs1 rs2 imm = some (if mayB op rd rs1 rs2 imm then 0 else 20) := by
  unfold quoinref02_Check.f
  rw [rmay_tells ho rd rs1 rs2 imm hk, Option.bind_some]
  cases mayB op rd rs1 rs2 imm <;> rfl
/-- Names: the same letters. -/
theorem rname_tells : ∀ op : Nat, op < 256 → (match insn_Name.f (op : Int), quoinref02_Name.f 200 (op : Int) with | some p, some q => p.1.toList == q.1.toList && p.2 == q.2 | _, _ => false) = true := by decide +kernel
theorem row_tells : ∀ n : Nat, n < 94 → (match quoinref02_row.f 200 ((n : Int) + 1) with | some p => p.1.toList == (namesL.getD n ⟨#[]⟩).toList | none => false) = true := by decide +kernel
theorem rof_l0 (s : ByteArray) : ∀ (d n k : Nat), n + d = 94 → d + 200 < k →
    quoinref02_Of.l0 k s ((n : Int) + 1) = match (namesL.drop n).findIdx? (fun x => x.toList == s.toList) with | some i => some ((n : Int) + i + 1, 0) | none => some (0, 6)
  | 0, n, k, hn, hk => by
    obtain ⟨k, rfl⟩ : ∃ m, k = m + 1 := ⟨k - 1, by omega⟩
    simp only [quoinref02_Of.l0]
    rw [if_neg (by omega), List.drop_eq_nil_of_le (by rw [namesL_length]; omega)]; rfl
  | d + 1, n, k, hn, hk => by
    obtain ⟨k, rfl⟩ : ∃ m, k = m + 1 := ⟨k - 1, by omega⟩
    have hlt : n < namesL.length := by rw [namesL_length]; omega
    have hr := row_tells n (by omega)
    cases hp : quoinref02_row.f 200 ((n : Int) + 1) with
    | none => rw [hp] at hr; cases hr
    | some p =>
      rw [hp] at hr
      have hp' := up (quoinref02_row.mono _) hp k (by omega)
      have hname : p.1.toList = (namesL.getD n ⟨#[]⟩).toList := by simpa using hr
      have hd : namesL.drop n = namesL.getD n ⟨#[]⟩ :: namesL.drop (n + 1) := by
        rw [List.drop_eq_getElem_cons hlt, List.getD_eq_getElem?_getD, List.getElem?_eq_getElem hlt]; rfl
      simp only [quoinref02_Of.l0]
      rw [if_pos (by omega), hp', Option.bind_some, hd, List.findIdx?_cons, hname]
      by_cases h : (namesL.getD n ⟨#[]⟩).toList = s.toList
      · rw [if_pos h, if_pos (by simpa using h)]
        simp only [Int.natCast_zero, Int.add_zero]
        rw [Int.emod_eq_of_lt (by omega) (by omega)]
      · rw [if_neg h, if_neg (by simpa using h), w64 (by omega) (by omega)]
        have key := rof_l0 s d (n + 1) k (by omega) (by omega)
        rw [show (((n + 1 : Nat)) : Int) + 1 = (n : Int) + 1 + 1 from by omega] at key
        rw [key]
        cases (namesL.drop (n + 1)).findIdx? (fun x => x.toList == s.toList) with
        | none => rfl
        | some i => simp; omega
theorem index_l0' (s : ByteArray) : ∀ (rest pre : List ByteArray) (k : Nat), rest.length < k → (pre ++ rest).length < 1000000 →
    slices_Index_string_string.l0 k (pre ++ rest) s ((pre ++ rest).length : Int) (pre.length : Int) = match rest.findIdx? (fun x => x.toList == s.toList) with | some i => some ((pre.length : Int) + i) | none => some (-1)
  | [], pre, k, hk, hl => by
    obtain ⟨k, rfl⟩ : ∃ m, k = m + 1 := ⟨k - 1, by omega⟩
    simp only [slices_Index_string_string.l0]
    rw [if_neg (by simp)]; rfl
  | x :: rest, pre, k, hk, hl => by
    obtain ⟨k, rfl⟩ : ∃ m, k = m + 1 := ⟨k - 1, by omega⟩
    have hln : (pre ++ x :: rest).length = pre.length + (rest.length + 1) := by simp
    have hrd : rdOf ByteArray.empty (pre ++ x :: rest) (pre.length : Int) = x := by
      unfold rdOf; rw [Int.toNat_natCast]; simp
    simp only [slices_Index_string_string.l0]
    rw [if_pos (by omega), if_pos (by omega), if_pos (by omega), hrd, List.findIdx?_cons]
    by_cases h : s.toList = x.toList
    · rw [if_pos h, if_pos (by simp [h])]; simp
    · rw [if_neg h, if_neg (by simpa using Ne.symm h), w64 (by omega) (by omega)]
      have key := index_l0' s rest (pre ++ [x]) k (by simp at hk; omega) (by simpa using hl)
      simp only [List.append_assoc, List.singleton_append, List.length_append, List.length_cons, List.length_nil, Nat.zero_add, Int.natCast_add, Int.natCast_one] at key ⊢
      rw [key]
      cases rest.findIdx? (fun x => x.toList == s.toList) with
      | none => rfl
      | some i => simp; omega
/-- Of, both: the same. -/
theorem of_same (s : ByteArray) {k : Nat} (hk : 400 ≤ k) : insn_Of.f k s = quoinref02_Of.f k s ∧ ∃ p, insn_Of.f k s = some p := by
  have h1 := index_l0' s namesL [] k (by rw [namesL_length]; omega) (by rw [List.nil_append, namesL_length]; decide)
  have h2 := rof_l0 s 94 0 k (by decide) (by omega)
  have e0 : ((0 : Nat) : Int) = 0 := rfl
  simp only [List.nil_append, List.length_nil, e0, Int.zero_add, List.drop_zero] at h1 h2
  unfold insn_Of.f quoinref02_Of.f slices_Index_string_string.f
  rw [h1, h2]
  cases hf : namesL.findIdx? (fun x => x.toList == s.toList) with
  | none => simp
  | some i =>
    have hi : i < 94 := by
      have := List.findIdx?_eq_some_iff_findIdx_eq.1 hf
      exact this.1
    simp only [Option.bind_some]
    rw [if_neg (by omega), w64 (by omega) (by omega), Int.emod_eq_of_lt (by omega) (by omega)]
    exact ⟨rfl, _, rfl⟩
end Go.Proofs.YtpijiohiohiilaaDoor.CheckR
