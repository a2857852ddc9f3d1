/- The instructions that make a number: the program's and the document's are one list; done one by one they leave the number. -/
import Derived.Test.YtpijiohiohiilaaDoorLiF
import Derived.Test.YtpijiohiohiilaaDoorCheckF
namespace Go.Proofs.YtpijiohiohiilaaDoor.LiF
set_option linter.unusedVariables false
set_option linter.unusedSimpArgs false
set_option maxRecDepth 100000
open Go Go.RowKit Go.Proofs.YtpijiohiohiilaaDoor.D Go.Proofs.YtpijiohiohiilaaDoor.BitL Go.Proofs.YtpijiohiohiilaaDoor.BitF Go.Proofs.YtpijiohiohiilaaDoor.CheckF Go.Proofs.YtpijiohiohiilaaDoorW.PrintWords Go.Proofs.YtpijiohiohiilaaDoorW.PrintMore
/-- What a register holds behind one instruction. -/
def stp (rd x : Int) (i : S33) : Int :=
  let fr := if i.f2 = rd then x else 0
  if i.f0 = 22 then (fr + i.f4 % 18446744073709551616) % 18446744073709551616
  else if i.f0 = 41 then wrap64 (wrap32 ((fr + i.f4 % 18446744073709551616) % 18446744073709551616 % 4294967296)) % 18446744073709551616
  else if i.f0 = 1 then wrap64 (wrap32 (i.f4 % 4294967296 * 4096 % 4294967296)) % 18446744073709551616
  else shl .u64 fr i.f4
def run (rd : Int) : Int → List S33 → Int
  | x, [] => x
  | x, i :: l => run rd (if rd = 0 then 0 else stp rd x i) l
theorem run_append (rd : Int) : ∀ (l m : List S33) (x : Int), run rd x (l ++ m) = run rd (run rd x l) m
  | [], m, x => rfl
  | i :: l, m, x => run_append rd l m _
/-- One of the instructions that make numbers, with register rd. -/
structure One (rd : Int) (i : S33) : Prop where
  isrd : i.f1 = rd
  rs1 : i.f2 = rd ∨ i.f2 = 0
  rs2 : i.f3 = 0
  op : i.f0 = 22 ∨ i.f0 = 41 ∨ (i.f0 = 1 ∧ i.f2 = 0) ∨ (i.f0 = 28 ∧ 0 ≤ i.f4)
  may : mayB i.f0.toNat i.f1 i.f2 i.f3 i.f4 = true
  lo : -9223372036854775808 ≤ i.f4
  hi : i.f4 < 9223372036854775808
theorem ok_rd {rd : Int} (h0 : 0 ≤ rd) (h1 : rd ≤ 31) : okReg true rd = true := by
  unfold okReg
  rw [decide_eq_true_eq]
  by_cases h : rd = 0
  · exact .inl h
  · exact .inr ⟨rfl, by omega, by omega⟩
theorem ok_zero (b : Bool) : okReg b 0 = true := by cases b <;> rfl
theorem may_addi {rd rs imm : Int} (a : okReg true rd = true) (b : okReg true rs = true) (h0 : -2048 ≤ imm) (h1 : imm ≤ 2047) : mayB 22 rd rs 0 imm = true := by
  unfold mayB
  rw [show formN 22 = 73 from by decide +kernel]
  simp only [regs, a, b, ok_zero, Bool.true_and, Bool.and_true]
  unfold okNum
  simp only [span]
  rw [decide_eq_true (by omega), decide_eq_true (by omega)]; rfl
theorem may_addiw {rd rs imm : Int} (a : okReg true rd = true) (b : okReg true rs = true) (h0 : -2048 ≤ imm) (h1 : imm ≤ 2047) : mayB 41 rd rs 0 imm = true := by
  unfold mayB
  rw [show formN 41 = 73 from by decide +kernel]
  simp only [regs, a, b, ok_zero, Bool.true_and, Bool.and_true]
  unfold okNum
  simp only [span]
  rw [decide_eq_true (by omega), decide_eq_true (by omega)]; rfl
theorem may_lui {rd imm : Int} (a : okReg true rd = true) (h0 : 0 ≤ imm) (h1 : imm ≤ 1048575) : mayB 1 rd 0 0 imm = true := by
  unfold mayB
  rw [show formN 1 = 85 from by decide +kernel]
  simp only [regs, a, ok_zero, Bool.true_and, Bool.and_true]
  unfold okNum
  simp only [span]
  rw [decide_eq_true (by omega), decide_eq_true (by omega)]; rfl
theorem may_slli {rd rs imm : Int} (a : okReg true rd = true) (b : okReg true rs = true) (h0 : 0 ≤ imm) (h1 : imm ≤ 63) : mayB 28 rd rs 0 imm = true := by
  unfold mayB
  rw [show formN 28 = 54 from by decide +kernel]
  simp only [regs, a, b, ok_zero, Bool.true_and, Bool.and_true]
  unfold okNum
  simp only [span]
  rw [decide_eq_true (by omega), decide_eq_true (by omega)]; rfl
theorem one_addi {rd rs imm : Int} (r0 : 0 ≤ rd) (r1 : rd ≤ 31) (hs : rs = rd ∨ rs = 0) (h0 : -2048 ≤ imm) (h1 : imm ≤ 2047) : One rd ⟨22, rd, rs, 0, imm⟩ :=
  ⟨rfl, hs, rfl, .inl rfl, may_addi (ok_rd r0 r1) (by rcases hs with rfl | rfl; exact ok_rd r0 r1; exact ok_zero _) h0 h1, by show -9223372036854775808 ≤ imm; omega, by show imm < 9223372036854775808; omega⟩
theorem one_addiw {rd imm : Int} (r0 : 0 ≤ rd) (r1 : rd ≤ 31) (h0 : -2048 ≤ imm) (h1 : imm ≤ 2047) : One rd ⟨41, rd, rd, 0, imm⟩ :=
  ⟨rfl, .inl rfl, rfl, .inr (.inl rfl), may_addiw (ok_rd r0 r1) (ok_rd r0 r1) h0 h1, by show -9223372036854775808 ≤ imm; omega, by show imm < 9223372036854775808; omega⟩
theorem one_lui {rd imm : Int} (r0 : 0 ≤ rd) (r1 : rd ≤ 31) (h0 : 0 ≤ imm) (h1 : imm ≤ 1048575) : One rd ⟨1, rd, 0, 0, imm⟩ :=
  ⟨rfl, .inr rfl, rfl, .inr (.inr (.inl ⟨rfl, rfl⟩)), may_lui (ok_rd r0 r1) h0 h1, by show -9223372036854775808 ≤ imm; omega, by show imm < 9223372036854775808; omega⟩
theorem one_slli {rd imm : Int} (r0 : 0 ≤ rd) (r1 : rd ≤ 31) (h0 : 0 ≤ imm) (h1 : imm ≤ 63) : One rd ⟨28, rd, rd, 0, imm⟩ :=
  ⟨rfl, .inl rfl, rfl, .inr (.inr (.inr ⟨rfl, h0⟩)), may_slli (ok_rd r0 r1) (ok_rd r0 r1) h0 h1, by show -9223372036854775808 ≤ imm; omega, by show imm < 9223372036854775808; omega⟩
theorem rof_addi : quoinref02_Of.f 200 (⟨#[97, 100, 100, 105]⟩ : ByteArray) = some (22, 0) := by decide +kernel
theorem rof_lui : quoinref02_Of.f 200 (⟨#[108, 117, 105]⟩ : ByteArray) = some (1, 0) := by decide +kernel
theorem rof_addiw : quoinref02_Of.f 200 (⟨#[97, 100, 100, 105, 119]⟩ : ByteArray) = some (41, 0) := by decide +kernel
theorem rof_slli : quoinref02_Of.f 200 (⟨#[115, 108, 108, 105]⟩ : ByteArray) = some (28, 0) := by decide +kernel
theorem step_tells {name : ByteArray} {c : Int} (h : quoinref02_Of.f 200 name = some (c, 0)) (a b d : Int) {k : Nat} (hk : 200 ≤ k) : quoinref18_step.f k name a b d = some (c, a, b, 0, d) := by
  unfold quoinref18_step.f
  rw [up (quoinref02_Of.mono _) h k hk]
  rfl
theorem two_tells0 : ∀ e < 53, quoinref01_Two.f 100 ((e : Nat) : Int) = some ((2 ^ e : Nat) : Int) := by decide +kernel
theorem two_tells {e : Nat} (he : e < 53) {k : Nat} (hk : 100 ≤ k) : quoinref01_Two.f k (e : Int) = some ((2 ^ e : Nat) : Int) := up (quoinref01_Two.mono _) (two_tells0 e he) k hk
theorem i64_and_20 (x : Int) (h0 : -9223372036854775808 ≤ x) (h1 : x < 9223372036854775808) : Go.bits .and .i64 x 1048575 = x % 1048576 := by
  show IntKind.i64.wrap ((BitVec.ofInt 64 x &&& BitVec.ofInt 64 ((1048575 : Nat) : Int)).toNat : Int) = _
  rw [BitVec.toNat_and, ofInt_u64 1048575 (by decide), BitVec.toNat_ofInt, show (1048575 : Nat) = 2 ^ 20 - 1 from rfl, Nat.and_two_pow_sub_one_eq_mod, IntKind.wrap_i64]
  omega
/-- A list of instructions for a number. -/
structure Good (rd n : Int) (m : Nat) (l : List S33) : Prop where
  one : ∀ i ∈ l, One rd i
  ge : 1 ≤ l.length
  le : l.length ≤ 2 * m
  has : rd ≠ 0 → ∀ x, run rd x l = n % 18446744073709551616
theorem small (rd n : Int) (r0 : 0 ≤ rd) (r1 : rd ≤ 31) (h0 : -2048 ≤ n) (h1 : n ≤ 2047) (k : Nat) (hk : 250 ≤ k) :
    li_steps.f k rd n = some [⟨22, rd, 0, 0, n⟩] ∧ quoinref18_Made.f k rd n = some [⟨22, rd, 0, 0, n⟩] ∧ Good rd n 1 [⟨22, rd, 0, 0, n⟩] := by
  obtain ⟨k, rfl⟩ : ∃ m, k = m + 2 := ⟨k - 2, by omega⟩
  refine ⟨?_, ?_, ?_⟩
  · rw [li_steps.f, parts_tells (by omega) (by omega), Option.bind_some, show (12 : Int) = ((12 : Nat) : Int) from rfl, fits_ok (by omega) (by omega) (by decide) (by decide), Option.bind_some, decide_eq_true (by constructor <;> simp <;> omega), if_pos rfl]
  · rw [quoinref18_Made.f, rparts_tells (by omega) (by omega), Option.bind_some, if_pos (by omega), decide_eq_true (by omega), quoinref18_Made.j0, if_pos rfl, step_tells rof_addi _ _ _ (by omega)]
    rfl
  · refine ⟨fun i hi => ?_, by simp, by simp, fun hr x => ?_⟩
    · rw [List.mem_singleton.1 hi]
      exact one_addi r0 r1 (.inr rfl) h0 h1
    · have e0 : ¬ (0 : Int) = rd := fun e => hr e.symm
      simp only [run, if_neg hr, stp, if_true, if_neg e0]
      omega
theorem middle (rd n : Int) (r0 : 0 ≤ rd) (r1 : rd ≤ 31) (hs : ¬(-2048 ≤ n ∧ n ≤ 2047)) (h0 : -2147483648 ≤ n) (h1 : n ≤ 2147483647) (k : Nat) (hk : 250 ≤ k) :
    ∃ l, li_steps.f k rd n = some l ∧ quoinref18_Made.f k rd n = some l ∧ Good rd n 1 l := by
  obtain ⟨k, rfl⟩ : ∃ m, k = m + 4 := ⟨k - 4, by omega⟩
  have hl := lo_range n
  have hsum := parts_sum n
  have hh : -1000000 ≤ hi n ∧ hi n ≤ 1000000 := by unfold hi; omega
  have f12 : bits_Fits.f n 12 = some false := by
    rw [show (12 : Int) = ((12 : Nat) : Int) from rfl, fits_ok (by omega) (by omega) (by decide) (by decide), decide_eq_false (by simp; omega)]
  have f32 : bits_Fits.f n 32 = some true := by
    rw [show (32 : Int) = ((32 : Nat) : Int) from rfl, fits_ok (by omega) (by omega) (by decide) (by decide), decide_eq_true (by constructor <;> simp <;> omega)]
  have lui1 := one_lui (imm := hi n % 1048576) r0 r1 (by omega) (by omega)
  have hlui : rd ≠ 0 → ∀ x, stp rd x ⟨1, rd, 0, 0, hi n % 1048576⟩ = wrap32 (4096 * hi n) % 18446744073709551616 := by
    intro hr x
    simp only [stp]
    rw [if_neg (by decide), if_neg (by decide), if_pos trivial]
    unfold wrap64 wrap32
    omega
  have e20 : ∀ j2 : Int → Option (List S33), (if Int.tmod (hi n) 1048576 < 0 then j2 (wrap64 (Int.tmod (hi n) 1048576 + 1048576)) else j2 (Int.tmod (hi n) 1048576)) = j2 (hi n % 1048576) := by
    intro j2
    rcases tmod_cases (hi n) (by decide : (0 : Int) < 1048576) with ⟨hn, ht⟩ | ⟨hn, ht⟩
    · rw [ht, if_neg (by omega)]
    · rw [ht]
      by_cases hz : (-(hi n)) % 1048576 = 0
      · rw [if_neg (by omega), show -((-(hi n)) % 1048576) = hi n % 1048576 from by omega]
      · rw [if_pos (by omega), BitF.w64 (by omega) (by omega), show -((-(hi n)) % 1048576) + 1048576 = hi n % 1048576 from by omega]
  have rhead : quoinref18_Made.f (k + 4) rd n = quoinref18_Made.j2 (k + 1) rd (lo n) (hi n % 1048576) := by
    have a : quoinref18_Made.j0 (k + 3) rd n (hi n) (lo n) false = quoinref18_Made.j2 (k + 1) rd (lo n) (hi n % 1048576) := by
      rw [quoinref18_Made.j0, if_neg (by decide), if_pos (by omega), decide_eq_true (by omega), quoinref18_Made.j1, if_pos rfl, e20]
    rw [quoinref18_Made.f, rparts_tells (by omega) (by omega), Option.bind_some]
    by_cases h : n ≥ -2048
    · rw [if_pos h, decide_eq_false (by omega)]; exact a
    · rw [if_neg h]; exact a
  by_cases hz : lo n = 0
  · refine ⟨[⟨1, rd, 0, 0, hi n % 1048576⟩], ?_, ?_, ?_⟩
    · rw [li_steps.f, parts_tells (by omega) (by omega), Option.bind_some, f12, Option.bind_some, if_neg (by decide), f32, Option.bind_some, if_pos rfl]
      simp only []
      rw [if_pos hz, i64_and_20 _ (by omega) (by omega)]
    · rw [rhead, quoinref18_Made.j2, step_tells rof_lui _ _ _ (by omega), Option.bind_some, Option.bind_some, if_pos hz]
    · refine ⟨fun i hi => by rw [List.mem_singleton.1 hi]; exact lui1, by simp, by simp, fun hr x => ?_⟩
      simp only [run, if_neg hr]
      rw [hlui hr]
      unfold wrap32
      omega
  · have addiw1 := one_addiw (imm := lo n) r0 r1 hl.1 hl.2
    refine ⟨[⟨1, rd, 0, 0, hi n % 1048576⟩, ⟨41, rd, rd, 0, lo n⟩], ?_, ?_, ?_⟩
    · rw [li_steps.f, parts_tells (by omega) (by omega), Option.bind_some, f12, Option.bind_some, if_neg (by decide), f32, Option.bind_some, if_pos rfl]
      simp only []
      rw [if_neg hz, i64_and_20 _ (by omega) (by omega)]
    · rw [rhead, quoinref18_Made.j2, step_tells rof_lui _ _ _ (by omega), Option.bind_some, Option.bind_some, if_neg hz, step_tells rof_addiw _ _ _ (by omega), Option.bind_some, if_pos (by simp)]
      rfl
    · refine ⟨fun i hi => ?_, by simp, by simp, fun hr x => ?_⟩
      · simp only [List.mem_cons, List.not_mem_nil, or_false] at hi
        rcases hi with rfl | rfl
        · exact lui1
        · exact addiw1
      · simp only [run, if_neg hr]
        rw [hlui hr]
        simp only [stp]
        rw [if_pos trivial, if_neg (by decide), if_pos trivial]
        unfold wrap64 wrap32
        omega
end Go.Proofs.YtpijiohiohiilaaDoor.LiF
