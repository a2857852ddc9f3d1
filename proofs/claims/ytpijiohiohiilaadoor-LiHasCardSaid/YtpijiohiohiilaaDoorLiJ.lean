/- Numbers made by instructions: what li.Steps makes of a number, and that it leaves the number in the register. Nothing of the document's own answer. -/
import Derived.Test.YtpijiohiohiilaaDoorGLi
import Derived.Test.YtpijiohiohiilaaDoorBitF
import Derived.Test.YtpijiohiohiilaaDoorCheckF
namespace Go.Proofs.YtpijiohiohiilaaDoor.LiF
set_option linter.unusedVariables false
set_option linter.unusedSimpArgs false
set_option maxRecDepth 100000
open Go Go.RowKit Go.Proofs.YtpijiohiohiilaaDoor.D Go.Proofs.YtpijiohiohiilaaDoor.BitL Go.Proofs.YtpijiohiohiilaaDoor.BitF Go.Proofs.YtpijiohiohiilaaDoor.CheckF Go.Proofs.YtpijiohiohiilaaDoorW.PrintWords Go.Proofs.YtpijiohiohiilaaDoorW.PrintMore
def lo (n : Int) : Int := (n + 2048) % 4096 - 2048
def hi (n : Int) : Int := (n + 2048) / 4096
theorem parts_sum (n : Int) : 4096 * hi n + lo n = n := by unfold hi lo; omega
theorem lo_range (n : Int) : -2048 ≤ lo n ∧ lo n ≤ 2047 := by unfold lo; omega
theorem hi_range {n : Int} (h0 : -9223372036854775808 ≤ n) (h1 : n < 9223372036854775808) : -2251799813685248 ≤ hi n ∧ hi n ≤ 2251799813685248 := by unfold hi; omega
theorem parts_tells {n : Int} (h0 : -9223372036854775808 ≤ n) (h1 : n < 9223372036854775808) : li_Parts.f n = some (hi n, lo n) := by
  have e : wrap64 (n * 4503599627370496) / 4503599627370496 = lo n := by unfold wrap64 lo; omega
  unfold li_Parts.f
  rw [e]
  have hl := lo_range n
  have hs := parts_sum n
  have hh := hi_range h0 h1
  by_cases h : lo n < 0
  · rw [if_pos h, BitF.w64 (by omega) (by omega), show n / 4096 + 1 = hi n from by omega]
  · rw [if_neg h, show n / 4096 = hi n from by omega]
theorem tmod_cases (a : Int) {b : Int} (hb : 0 < b) : (0 ≤ a ∧ Int.tmod a b = a % b) ∨ (a < 0 ∧ Int.tmod a b = -((-a) % b)) := by
  by_cases h : 0 ≤ a
  · exact .inl ⟨h, Int.tmod_eq_emod_of_nonneg h⟩
  · refine .inr ⟨by omega, ?_⟩
    have := Int.neg_tmod (-a) b
    rw [Int.neg_neg] at this
    rw [this, Int.tmod_eq_emod_of_nonneg (by omega)]
/-- Zeros at the end. -/
theorem tz : ∀ (f t0 : Nat), 0 < t0 → t0 < 2 ^ f → ∃ s t, t0 = t * 2 ^ s ∧ t % 2 = 1 ∧ s < f ∧ t < 2 ^ (f - s)
  | 0, t0, h, h1 => by simp at h1; omega
  | f + 1, t0, h, h1 => by
    by_cases ho : t0 % 2 = 1
    · exact ⟨0, t0, by simp, ho, by omega, by simpa using h1⟩
    · have h2 : 2 ^ (f + 1) = 2 * 2 ^ f := by rw [Nat.pow_succ]; omega
      obtain ⟨s, t, e, ht, hs, hlt⟩ := tz f (t0 / 2) (by omega) (by omega)
      refine ⟨s + 1, t, ?_, ht, by omega, by rw [show f + 1 - (s + 1) = f - s from by omega]; exact hlt⟩
      rw [Nat.pow_succ, ← Nat.mul_assoc, ← e]
      omega
theorem u64_and_one (x : Nat) (hx : x < 18446744073709551616) : Go.bits .and .u64 (x : Int) 1 = ((x % 2 : Nat) : Int) := by
  rw [show (1 : Int) = ((1 : Nat) : Int) from rfl, u64_and_nat x 1 hx (by decide), Nat.and_one_is_mod]
theorem top_tells : ∀ (s t c k : Nat), t % 2 = 1 → t * 2 ^ s < 18446744073709551616 → c + s < 1000 → s < k → li_top.l0 k ((t * 2 ^ s : Nat) : Int) (c : Int) = some ((t : Int), ((c + s : Nat) : Int))
  | 0, t, c, k, ht, hb, hc, hk => by
    obtain ⟨k, rfl⟩ : ∃ m, k = m + 1 := ⟨k - 1, by omega⟩
    simp only [li_top.l0, Nat.pow_zero, Nat.mul_one, Nat.add_zero]
    rw [u64_and_one t (by simpa using hb), ht, if_neg (by decide)]
  | s + 1, t, c, k, ht, hb, hc, hk => by
    obtain ⟨k, rfl⟩ : ∃ m, k = m + 1 := ⟨k - 1, by omega⟩
    have e : t * 2 ^ (s + 1) = 2 * (t * 2 ^ s) := by rw [Nat.pow_succ, ← Nat.mul_assoc, Nat.mul_comm]
    simp only [li_top.l0]
    rw [u64_and_one _ hb, e, if_pos (by omega), show ((2 * (t * 2 ^ s) : Nat) : Int) / 2 = ((t * 2 ^ s : Nat) : Int) from by omega, BitF.w64 (by omega) (by omega), show (c : Int) + 1 = ((c + 1 : Nat) : Int) from rfl,
      top_tells s t (c + 1) k ht (by omega) (by omega) (by omega), show c + 1 + s = c + (s + 1) from by omega]
theorem cut_sgn {t s : Nat} (hs : s < 52) (ht : t < 2 ^ (52 - s)) :
    shr .i64 (shl .i64 (wrap64 (t : Int)) (wrap64 (12 + (s : Int)))) (wrap64 (12 + (s : Int))) = sgn t (52 - s) := by
  have e64 : 2 ^ (52 - s) * 2 ^ (12 + s) = 18446744073709551616 := by rw [← Nat.pow_add, show 52 - s + (12 + s) = 64 from by omega]
  have e63 : 2 ^ (52 - s - 1) * 2 ^ (12 + s) = 9223372036854775808 := by rw [← Nat.pow_add, show 52 - s - 1 + (12 + s) = 63 from by omega]
  have hp := Nat.two_pow_pos (12 + s)
  have hpn := Nat.two_pow_pos (52 - s)
  have hpow : 2 ^ (52 - s) ≤ 4503599627370496 := Nat.pow_le_pow_right (n := 2) (by decide) (by omega : 52 - s ≤ 52)
  rw [BitF.w64 (x := (t : Int)) (by omega) (by omega), BitF.w64 (x := 12 + (s : Int)) (by omega) (by omega), show (12 : Int) + (s : Int) = ((12 + s : Nat) : Int) from by omega]
  have hlt : t * 2 ^ (12 + s) < 18446744073709551616 := by rw [← e64]; exact Nat.mul_lt_mul_of_pos_right ht hp
  unfold shl shr
  rw [Int.toNat_natCast, show min (12 + s) (IntKind.i64).bits = 12 + s from Nat.min_eq_left (by simp [IntKind.bits]; omega), Go.Proofs.YtpijiohiohiilaaDoorW.PrintLast.i64_w, ← cast_pow]
  unfold sgn
  rw [← cast_pow (52 - s)]
  generalize hM : 2 ^ (12 + s) = M at *
  by_cases h : t < 2 ^ (52 - s - 1)
  · rw [if_pos h]
    have : t * M < 9223372036854775808 := by rw [← e63]; exact Nat.mul_lt_mul_of_pos_right h hp
    have e : wrap64 ((t : Int) * (M : Int)) = (t : Int) * (M : Int) := by rw [← Int.natCast_mul]; exact BitF.w64 (by omega) (by omega)
    rw [e, Int.mul_ediv_cancel _ (by omega)]
  · rw [if_neg h]
    have : 9223372036854775808 ≤ t * M := by rw [← e63]; exact Nat.mul_le_mul_right _ (by omega)
    have e : wrap64 ((t : Int) * (M : Int)) = ((t : Int) - ((2 ^ (52 - s) : Nat) : Int)) * (M : Int) := by
      rw [Int.sub_mul, ← Int.natCast_mul, ← Int.natCast_mul, e64]; unfold wrap64; omega
    rw [e, Int.mul_ediv_cancel _ (by omega)]
/-- What a register holds behind one instruction. -/
def stp (rd x : Int) (i : S33) : Int :=
  let fr := if i.f2 = rd then x else 0
  if i.f0 = 22 then (fr + i.f4 % 18446744073709551616) % 18446744073709551616
  else if i.f0 = 41 then wrap64 (wrap32 ((fr + i.f4 % 18446744073709551616) % 18446744073709551616 % 4294967296)) % 18446744073709551616
  else if i.f0 = 1 then wrap64 (wrap32 (i.f4 % 4294967296 * 4096 % 4294967296)) % 18446744073709551616
  else shl .u64 fr i.f4
def run (rd : Int) : Int → List S33 → Int
  | x, [] => x
  | x, i :: l => run rd (if rd = 0 then 0 else stp rd x i) l
theorem run_append (rd : Int) : ∀ (l m : List S33) (x : Int), run rd x (l ++ m) = run rd (run rd x l) m
  | [], m, x => rfl
  | i :: l, m, x => run_append rd l m _
/-- One of the instructions that make numbers, with register rd. -/
structure One (rd : Int) (i : S33) : Prop where
  isrd : i.f1 = rd
  rs1 : i.f2 = rd ∨ i.f2 = 0
  rs2 : i.f3 = 0
  op : i.f0 = 22 ∨ i.f0 = 41 ∨ (i.f0 = 1 ∧ i.f2 = 0) ∨ (i.f0 = 28 ∧ 0 ≤ i.f4)
  may : mayB i.f0.toNat i.f1 i.f2 i.f3 i.f4 = true
  lo : -9223372036854775808 ≤ i.f4
  hi : i.f4 < 9223372036854775808
theorem ok_rd {rd : Int} (h0 : 0 ≤ rd) (h1 : rd ≤ 31) : okReg true rd = true := by
  unfold okReg
  rw [decide_eq_true_eq]
  by_cases h : rd = 0
  · exact .inl h
  · exact .inr ⟨rfl, by omega, by omega⟩
theorem ok_zero (b : Bool) : okReg b 0 = true := by cases b <;> rfl
theorem may_addi {rd rs imm : Int} (a : okReg true rd = true) (b : okReg true rs = true) (h0 : -2048 ≤ imm) (h1 : imm ≤ 2047) : mayB 22 rd rs 0 imm = true := by
  unfold mayB
  rw [show formN 22 = 73 from by decide +kernel]
  simp only [regs, a, b, ok_zero, Bool.true_and, Bool.and_true]
  unfold okNum
  simp only [span]
  rw [decide_eq_true (by omega), decide_eq_true (by omega)]; rfl
theorem may_addiw {rd rs imm : Int} (a : okReg true rd = true) (b : okReg true rs = true) (h0 : -2048 ≤ imm) (h1 : imm ≤ 2047) : mayB 41 rd rs 0 imm = true := by
  unfold mayB
  rw [show formN 41 = 73 from by decide +kernel]
  simp only [regs, a, b, ok_zero, Bool.true_and, Bool.and_true]
  unfold okNum
  simp only [span]
  rw [decide_eq_true (by omega), decide_eq_true (by omega)]; rfl
theorem may_lui {rd imm : Int} (a : okReg true rd = true) (h0 : 0 ≤ imm) (h1 : imm ≤ 1048575) : mayB 1 rd 0 0 imm = true := by
  unfold mayB
  rw [show formN 1 = 85 from by decide +kernel]
  simp only [regs, a, ok_zero, Bool.true_and, Bool.and_true]
  unfold okNum
  simp only [span]
  rw [decide_eq_true (by omega), decide_eq_true (by omega)]; rfl
theorem may_slli {rd rs imm : Int} (a : okReg true rd = true) (b : okReg true rs = true) (h0 : 0 ≤ imm) (h1 : imm ≤ 63) : mayB 28 rd rs 0 imm = true := by
  unfold mayB
  rw [show formN 28 = 54 from by decide +kernel]
  simp only [regs, a, b, ok_zero, Bool.true_and, Bool.and_true]
  unfold okNum
  simp only [span]
  rw [decide_eq_true (by omega), decide_eq_true (by omega)]; rfl
theorem one_addi {rd rs imm : Int} (r0 : 0 ≤ rd) (r1 : rd ≤ 31) (hs : rs = rd ∨ rs = 0) (h0 : -2048 ≤ imm) (h1 : imm ≤ 2047) : One rd ⟨22, rd, rs, 0, imm⟩ :=
  ⟨rfl, hs, rfl, .inl rfl, may_addi (ok_rd r0 r1) (by rcases hs with rfl | rfl; exact ok_rd r0 r1; exact ok_zero _) h0 h1, by show -9223372036854775808 ≤ imm; omega, by show imm < 9223372036854775808; omega⟩
theorem one_addiw {rd imm : Int} (r0 : 0 ≤ rd) (r1 : rd ≤ 31) (h0 : -2048 ≤ imm) (h1 : imm ≤ 2047) : One rd ⟨41, rd, rd, 0, imm⟩ :=
  ⟨rfl, .inl rfl, rfl, .inr (.inl rfl), may_addiw (ok_rd r0 r1) (ok_rd r0 r1) h0 h1, by show -9223372036854775808 ≤ imm; omega, by show imm < 9223372036854775808; omega⟩
theorem one_lui {rd imm : Int} (r0 : 0 ≤ rd) (r1 : rd ≤ 31) (h0 : 0 ≤ imm) (h1 : imm ≤ 1048575) : One rd ⟨1, rd, 0, 0, imm⟩ :=
  ⟨rfl, .inr rfl, rfl, .inr (.inr (.inl ⟨rfl, rfl⟩)), may_lui (ok_rd r0 r1) h0 h1, by show -9223372036854775808 ≤ imm; omega, by show imm < 9223372036854775808; omega⟩
theorem one_slli {rd imm : Int} (r0 : 0 ≤ rd) (r1 : rd ≤ 31) (h0 : 0 ≤ imm) (h1 : imm ≤ 63) : One rd ⟨28, rd, rd, 0, imm⟩ :=
  ⟨rfl, .inl rfl, rfl, .inr (.inr (.inr ⟨rfl, h0⟩)), may_slli (ok_rd r0 r1) (ok_rd r0 r1) h0 h1, by show -9223372036854775808 ≤ imm; omega, by show imm < 9223372036854775808; omega⟩
theorem i64_and_20 (x : Int) (h0 : -9223372036854775808 ≤ x) (h1 : x < 9223372036854775808) : Go.bits .and .i64 x 1048575 = x % 1048576 := by
  show IntKind.i64.wrap ((BitVec.ofInt 64 x &&& BitVec.ofInt 64 ((1048575 : Nat) : Int)).toNat : Int) = _
  rw [BitVec.toNat_and, ofInt_u64 1048575 (by decide), BitVec.toNat_ofInt, show (1048575 : Nat) = 2 ^ 20 - 1 from rfl, Nat.and_two_pow_sub_one_eq_mod, IntKind.wrap_i64]
  omega
/-- A list of instructions for a number. -/
structure Good (rd n : Int) (m : Nat) (l : List S33) : Prop where
  one : ∀ i ∈ l, One rd i
  ge : 1 ≤ l.length
  le : l.length ≤ 2 * m
  has : rd ≠ 0 → ∀ x, run rd x l = n % 18446744073709551616
theorem small (rd n : Int) (r0 : 0 ≤ rd) (r1 : rd ≤ 31) (h0 : -2048 ≤ n) (h1 : n ≤ 2047) (k : Nat) (hk : 250 ≤ k) :
    li_steps.f k rd n = some [⟨22, rd, 0, 0, n⟩] ∧ Good rd n 1 [⟨22, rd, 0, 0, n⟩] := by
  obtain ⟨k, rfl⟩ : ∃ m, k = m + 2 := ⟨k - 2, by omega⟩
  refine ⟨?_, ?_⟩
  · rw [li_steps.f, parts_tells (by omega) (by omega), Option.bind_some, show (12 : Int) = ((12 : Nat) : Int) from rfl, fits_ok (by omega) (by omega) (by decide) (by decide), Option.bind_some, decide_eq_true (by constructor <;> simp <;> omega), if_pos rfl]
  · refine ⟨fun i hi => ?_, by simp, by simp, fun hr x => ?_⟩
    · rw [List.mem_singleton.1 hi]
      exact one_addi r0 r1 (.inr rfl) h0 h1
    · have e0 : ¬ (0 : Int) = rd := fun e => hr e.symm
      simp only [run, if_neg hr, stp, if_true, if_neg e0]
      omega
theorem middle (rd n : Int) (r0 : 0 ≤ rd) (r1 : rd ≤ 31) (hs : ¬(-2048 ≤ n ∧ n ≤ 2047)) (h0 : -2147483648 ≤ n) (h1 : n ≤ 2147483647) (k : Nat) (hk : 250 ≤ k) :
    ∃ l, li_steps.f k rd n = some l ∧ Good rd n 1 l := by
  obtain ⟨k, rfl⟩ : ∃ m, k = m + 4 := ⟨k - 4, by omega⟩
  have hl := lo_range n
  have hsum := parts_sum n
  have hh : -1000000 ≤ hi n ∧ hi n ≤ 1000000 := by unfold hi; omega
  have f12 : bits_Fits.f n 12 = some false := by
    rw [show (12 : Int) = ((12 : Nat) : Int) from rfl, fits_ok (by omega) (by omega) (by decide) (by decide), decide_eq_false (by simp; omega)]
  have f32 : bits_Fits.f n 32 = some true := by
    rw [show (32 : Int) = ((32 : Nat) : Int) from rfl, fits_ok (by omega) (by omega) (by decide) (by decide), decide_eq_true (by constructor <;> simp <;> omega)]
  have lui1 := one_lui (imm := hi n % 1048576) r0 r1 (by omega) (by omega)
  have hlui : rd ≠ 0 → ∀ x, stp rd x ⟨1, rd, 0, 0, hi n % 1048576⟩ = wrap32 (4096 * hi n) % 18446744073709551616 := by
    intro hr x
    simp only [stp]
    rw [if_neg (by decide), if_neg (by decide), if_pos trivial]
    unfold wrap64 wrap32
    omega
  by_cases hz : lo n = 0
  · refine ⟨[⟨1, rd, 0, 0, hi n % 1048576⟩], ?_, ?_⟩
    · rw [li_steps.f, parts_tells (by omega) (by omega), Option.bind_some, f12, Option.bind_some, if_neg (by decide), f32, Option.bind_some, if_pos rfl]
      simp only []
      rw [if_pos hz, i64_and_20 _ (by omega) (by omega)]
    · refine ⟨fun i hi => by rw [List.mem_singleton.1 hi]; exact lui1, by simp, by simp, fun hr x => ?_⟩
      simp only [run, if_neg hr]
      rw [hlui hr]
      unfold wrap32
      omega
  · have addiw1 := one_addiw (imm := lo n) r0 r1 hl.1 hl.2
    refine ⟨[⟨1, rd, 0, 0, hi n % 1048576⟩, ⟨41, rd, rd, 0, lo n⟩], ?_, ?_⟩
    · rw [li_steps.f, parts_tells (by omega) (by omega), Option.bind_some, f12, Option.bind_some, if_neg (by decide), f32, Option.bind_some, if_pos rfl]
      simp only []
      rw [if_neg hz, i64_and_20 _ (by omega) (by omega)]
    · refine ⟨fun i hi => ?_, by simp, by simp, fun hr x => ?_⟩
      · simp only [List.mem_cons, List.not_mem_nil, or_false] at hi
        rcases hi with rfl | rfl
        · exact lui1
        · exact addiw1
      · simp only [run, if_neg hr]
        rw [hlui hr]
        simp only [stp]
        rw [if_pos trivial, if_neg (by decide), if_pos trivial]
        unfold wrap64 wrap32
        omega
theorem mul_bound {z P h : Int} (hP : 1 ≤ P) (e : z * P = h) : (h ≤ z ∧ z ≤ 0) ∨ (0 ≤ z ∧ z ≤ h) := by
  by_cases hz : 0 ≤ z
  · have := Int.mul_le_mul_of_nonneg_left hP hz
    rw [Int.mul_one, e] at this
    exact .inr ⟨hz, this⟩
  · have := Int.mul_le_mul_of_nonpos_left (by omega : z ≤ 0) hP
    rw [Int.mul_one, e] at this
    exact .inl ⟨this, by omega⟩
theorem top_tells0 (s t k : Nat) (ht : t % 2 = 1) (hb : t * 2 ^ s < 18446744073709551616) (hs : s < 52) (hk : s < k) : li_top.l0 k ((t * 2 ^ s : Nat) : Int) 0 = some ((t : Int), (s : Int)) := by
  have e := top_tells s t 0 k ht hb (by omega) hk
  rw [Nat.zero_add] at e
  exact e
theorem top0 {h t0 : Int} (ht0 : h % 4503599627370496 = t0) : h % 18446744073709551616 * 4096 % 18446744073709551616 / 4096 = t0 := by omega
set_option maxHeartbeats 400000 in
theorem large (rd n : Int) (r0 : 0 ≤ rd) (r1 : rd ≤ 31) (h0 : -9223372036854775808 ≤ n) (h1 : n < 9223372036854775808) (hs : ¬(-2147483648 ≤ n ∧ n ≤ 2147483647)) :
    ∃ z : Int, ((hi n ≤ z ∧ z ≤ 0) ∨ (0 ≤ z ∧ z ≤ hi n) ∨ (hi n = 2251799813685248 ∧ -2251799813685248 ≤ z ∧ z ≤ 0)) ∧ ∀ (m K : Nat) (lz : List S33), m ≤ 100 → 100 ≤ K → (∀ k, K ≤ k → li_steps.f k rd z = some lz) → Good rd z m lz →
      ∃ l, (∀ k, K + 250 ≤ k → li_steps.f k rd n = some l) ∧ Good rd n (m + 1) l := by
  have hl := lo_range n
  have hsum := parts_sum n
  have hh := hi_range h0 h1
  have f12 : bits_Fits.f n 12 = some false := by
    rw [show (12 : Int) = ((12 : Nat) : Int) from rfl, fits_ok h0 h1 (by decide) (by decide), decide_eq_false (by simp; omega)]
  have f32 : bits_Fits.f n 32 = some false := by
    rw [show (32 : Int) = ((32 : Nat) : Int) from rfl, fits_ok h0 h1 (by decide) (by decide), decide_eq_false (by simp; omega)]
  obtain ⟨t0, ht0⟩ := Int.eq_ofNat_of_zero_le (by omega : 0 ≤ hi n % 4503599627370496)
  obtain ⟨s, t, e, hodd, hs52, htlt⟩ := tz 52 t0 (by omega) (by omega)
  have hP := Nat.two_pow_pos s
  have e52 : 2 ^ (52 - s) * 2 ^ s = 4503599627370496 := by rw [← Nat.pow_add, show 52 - s + s = 52 from by omega]
  have e51 : 2 ^ (52 - s - 1) * 2 ^ s = 2251799813685248 := by rw [← Nat.pow_add, show 52 - s - 1 + s = 51 from by omega]
  have zs : sgn t (52 - s) * ((2 ^ s : Nat) : Int) = if t0 < 2251799813685248 then (t0 : Int) else (t0 : Int) - 4503599627370496 := by
    unfold sgn
    rw [← cast_pow]
    by_cases h : t < 2 ^ (52 - s - 1)
    · have : t0 < 2251799813685248 := by rw [e, ← e51]; exact Nat.mul_lt_mul_of_pos_right h hP
      rw [if_pos h, if_pos this, e, Int.natCast_mul]
    · have : 2251799813685248 ≤ t0 := by rw [e, ← e51]; exact Nat.mul_le_mul_right _ (by omega)
      rw [if_neg h, if_neg (by omega), Int.sub_mul, ← Int.natCast_mul, ← Int.natCast_mul, e52, ← e]
      rfl
  refine ⟨sgn t (52 - s), ?_, ?_⟩
  · by_cases hc : hi n = 2251799813685248
    · have ht : t0 = 2251799813685248 := by omega
      rw [ht, if_neg (by decide)] at zs
      rcases mul_bound (by omega : (1 : Int) ≤ ((2 ^ s : Nat) : Int)) zs with ⟨a, b⟩ | ⟨a, b⟩
      · exact .inr (.inr ⟨hc, by omega, b⟩)
      · omega
    · have zh : sgn t (52 - s) * ((2 ^ s : Nat) : Int) = hi n := by
        rw [zs]
        split <;> omega
      rcases mul_bound (by omega : (1 : Int) ≤ ((2 ^ s : Nat) : Int)) zh with a | a
      · exact .inl a
      · exact .inr (.inl a)
  · intro m K lz hm hK hz hg
    have ZS := Aside0.mk zs
    have HT := Aside0.mk htlt
    have E := Aside0.mk e
    have T0 := Aside0.mk ht0
    have b1 : t * 2 ^ s < 4503599627370496 := by rw [← e]; omega
    clear zs htlt e51 e52 e ht0
    have hlen : lz.length ≤ 200 := by have := hg.le; omega
    have slli1 := one_slli (imm := ((12 + s : Nat) : Int)) r0 r1 (by omega) (by omega)
    have w12 : wrap64 (12 + (s : Int)) = ((12 + s : Nat) : Int) := by rw [BitF.w64 (by omega) (by omega)]; omega
    have W12 := Aside0.mk w12
    have HODD := Aside0.mk hodd
    clear w12 hodd
    have lihead : ∀ k, K + 250 ≤ k → li_steps.f k rd n = (if lo n = 0 then some (lz ++ [(⟨28, rd, rd, 0, ((12 + s : Nat) : Int)⟩ : S33)]) else some ((lz ++ [(⟨28, rd, rd, 0, ((12 + s : Nat) : Int)⟩ : S33)]) ++ [(⟨22, rd, rd, 0, lo n⟩ : S33)])) := by
      intro k hk
      obtain ⟨k, rfl⟩ : ∃ q, k = q + 1 := ⟨k - 1, by omega⟩
      rw [li_steps.f, parts_tells h0 h1, Option.bind_some, f12, Option.bind_some, if_neg (by decide), f32, Option.bind_some, if_neg (by decide)]
      simp only []
      have tt := top_tells0 s t k HODD.out (Nat.lt_trans b1 (by decide)) hs52 (by omega)
      rw [(top0 T0.out).trans (congrArg (fun x : Nat => (x : Int)) E.out), tt, Option.bind_some]
      simp only []
      rw [cut_sgn hs52 HT.out, W12.out, if_pos (by omega), (hz k (by omega)), Option.bind_some, if_pos (by omega)]
    have hrun : rd ≠ 0 → ∀ x, run rd x (lz ++ [(⟨28, rd, rd, 0, ((12 + s : Nat) : Int)⟩ : S33)]) = (4096 * hi n) % 18446744073709551616 := by
      intro hr x
      rw [run_append, hg.has hr]
      simp only [run, if_neg hr, stp]
      rw [if_neg (by decide), if_neg (by decide), if_neg (by decide), if_pos trivial]
      unfold shl
      rw [Int.toNat_natCast, show min (12 + s) (IntKind.u64).bits = 12 + s from Nat.min_eq_left (by simp [IntKind.bits]; omega), IntKind.wrap_u64, ← cast_pow, Int.mul_emod, Int.emod_emod_of_dvd _ (Int.dvd_refl _), ← Int.mul_emod]
      have : sgn t (52 - s) * ((2 ^ (12 + s) : Nat) : Int) = 4096 * (sgn t (52 - s) * ((2 ^ s : Nat) : Int)) := by
        rw [Nat.pow_add, Int.natCast_mul, ← Int.mul_assoc, Int.mul_comm (sgn t (52 - s)) ((2 ^ 12 : Nat) : Int), Int.mul_assoc]
        rw [show ((2 ^ 12 : Nat) : Int) = 4096 from rfl]
      have ht0 := T0.out
      rw [this, ZS.out]
      split <;> omega
    by_cases hlo : lo n = 0
    · refine ⟨_, fun k hk => (lihead k hk).trans (if_pos hlo), fun i hi => ?_, by simp, by have := hg.le; simp; omega, fun hr x => ?_⟩
      · rcases List.mem_append.1 hi with h | h
        · exact hg.one i h
        · rw [List.mem_singleton.1 h]; exact slli1
      · rw [hrun hr]
        congr 1
        omega
    · refine ⟨_, fun k hk => (lihead k hk).trans (if_neg hlo), fun i hi => ?_, by simp, by have := hg.le; simp; omega, fun hr x => ?_⟩
      · rcases List.mem_append.1 hi with h | h
        · rcases List.mem_append.1 h with h | h
          · exact hg.one i h
          · rw [List.mem_singleton.1 h]; exact slli1
        · rw [List.mem_singleton.1 h]; exact one_addi r0 r1 (.inl rfl) hl.1 hl.2
      · rw [run_append, hrun hr]
        simp only [run, if_neg hr, stp, if_true]
        omega
theorem all1 (rd n : Int) (r0 : 0 ≤ rd) (r1 : rd ≤ 31) (h0 : -2147483648 ≤ n) (h1 : n ≤ 2147483647) :
    ∃ l, (∀ k, 250 ≤ k → li_steps.f k rd n = some l) ∧ Good rd n 1 l ∧ ((-2048 ≤ n ∧ n ≤ 2047) → l.length = 1) := by
  by_cases hs : -2048 ≤ n ∧ n ≤ 2047
  · exact ⟨_, fun k hk => (small rd n r0 r1 hs.1 hs.2 k hk).1, (small rd n r0 r1 hs.1 hs.2 250 (by decide)).2, fun _ => rfl⟩
  · obtain ⟨l, a, c⟩ := middle rd n r0 r1 hs h0 h1 250 (by decide)
    exact ⟨l, fun k hk => up (li_steps.mono _ _) a k hk, c, fun h => absurd h hs⟩
theorem next (rd : Int) (r0 : 0 ≤ rd) (r1 : rd ≤ 31) (B C : Int) (m K : Nat) (hB : 2147483648 ≤ B) (hC : C ≤ 9223372036854775808) (hm : m ≤ 100) (hK : 100 ≤ K) (hBC : C ≤ 4096 * B - 2048) (hB2 : 2251799813685248 ≤ B ∨ C ≤ 9223372036854773760)
    (ih : ∀ n : Int, -B ≤ n → n ≤ B → n < 9223372036854775808 → ∃ l, (∀ k, K ≤ k → li_steps.f k rd n = some l) ∧ Good rd n m l) :
    ∀ n : Int, -C ≤ n → n ≤ C → n < 9223372036854775808 → ∃ l, (∀ k, K + 250 ≤ k → li_steps.f k rd n = some l) ∧ Good rd n (m + 1) l := by
  intro n h0 h1 h2
  by_cases hs : -2147483648 ≤ n ∧ n ≤ 2147483647
  · obtain ⟨l, a, b⟩ := ih n (by omega) (by omega) h2
    exact ⟨l, fun k hk => a k (by omega), b.one, b.ge, by have := b.le; omega, b.has⟩
  · obtain ⟨z, zb, zf⟩ := large rd n r0 r1 (by omega) h2 hs
    have hsum := parts_sum n
    have hl := lo_range n
    obtain ⟨lz, a, b⟩ := ih z (by omega) (by omega) (by omega)
    exact zf m K lz hm hK a b
theorem all4 (rd n : Int) (r0 : 0 ≤ rd) (r1 : rd ≤ 31) (h0 : -9223372036854775808 ≤ n) (h1 : n < 9223372036854775808) :
    ∃ l, (∀ k, 1000 ≤ k → li_steps.f k rd n = some l) ∧ Good rd n 4 l := by
  have l1 : ∀ n : Int, -2147483647 ≤ n → n ≤ 2147483647 → n < 9223372036854775808 → ∃ l, (∀ k, 250 ≤ k → li_steps.f k rd n = some l) ∧ Good rd n 1 l := fun n a b _ => by
    obtain ⟨l, x, y, _⟩ := all1 rd n r0 r1 (by omega) (by omega)
    exact ⟨l, x, y⟩
  have l2 : ∀ n : Int, -4398046511104 ≤ n → n ≤ 4398046511104 → n < 9223372036854775808 → ∃ l, (∀ k, 500 ≤ k → li_steps.f k rd n = some l) ∧ Good rd n 2 l := by
    intro n a b c
    by_cases hs : -2147483648 ≤ n ∧ n ≤ 2147483647
    · obtain ⟨l, x, y, _⟩ := all1 rd n r0 r1 hs.1 hs.2
      exact ⟨l, fun k hk => x k (by omega), y.one, y.ge, by have := y.le; omega, y.has⟩
    · obtain ⟨z, zb, zf⟩ := large rd n r0 r1 (by omega) c hs
      have hsum := parts_sum n
      have hl := lo_range n
      obtain ⟨lz, x, y, _⟩ := all1 rd z r0 r1 (by omega) (by omega)
      exact zf 1 250 lz (by decide) (by decide) x y
  have l3 := next rd r0 r1 4398046511104 9007199254740992 2 500 (by decide) (by decide) (by decide) (by decide) (by decide) (.inr (by decide)) l2
  have l4 := next rd r0 r1 9007199254740992 9223372036854775808 3 750 (by decide) (by decide) (by decide) (by decide) (by decide) (.inl (by decide)) l3
  exact l4 n h0 (by omega) h1
end Go.Proofs.YtpijiohiohiilaaDoor.LiF
