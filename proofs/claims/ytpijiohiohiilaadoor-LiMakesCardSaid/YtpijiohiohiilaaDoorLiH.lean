/- A number of more than 32 bits: the instructions for what is left of its high part, a shift, and its low part; and so on, four times at most. -/
import Derived.Test.YtpijiohiohiilaaDoorLiG
namespace Go.Proofs.YtpijiohiohiilaaDoor.LiF
set_option linter.unusedVariables false
set_option linter.unusedSimpArgs false
set_option maxRecDepth 100000
open Go Go.RowKit Go.Proofs.YtpijiohiohiilaaDoor.D Go.Proofs.YtpijiohiohiilaaDoor.BitL Go.Proofs.YtpijiohiohiilaaDoor.BitF Go.Proofs.YtpijiohiohiilaaDoor.CheckF Go.Proofs.YtpijiohiohiilaaDoorW.PrintWords Go.Proofs.YtpijiohiohiilaaDoorW.PrintMore
theorem mul_bound {z P h : Int} (hP : 1 ≤ P) (e : z * P = h) : (h ≤ z ∧ z ≤ 0) ∨ (0 ≤ z ∧ z ≤ h) := by
  by_cases hz : 0 ≤ z
  · have := Int.mul_le_mul_of_nonneg_left hP hz
    rw [Int.mul_one, e] at this
    exact .inr ⟨hz, this⟩
  · have := Int.mul_le_mul_of_nonpos_left (by omega : z ≤ 0) hP
    rw [Int.mul_one, e] at this
    exact .inl ⟨this, by omega⟩
theorem top_tells0 (s t k : Nat) (ht : t % 2 = 1) (hb : t * 2 ^ s < 18446744073709551616) (hs : s < 52) (hk : s < k) : li_top.l0 k ((t * 2 ^ s : Nat) : Int) 0 = some ((t : Int), (s : Int)) := by
  have e := top_tells s t 0 k ht hb (by omega) hk
  rw [Nat.zero_add] at e
  exact e
theorem rtop_tells0 (rd l : Int) (s t k : Nat) (ht : t % 2 = 1) (hb : t * 2 ^ s < 4503599627370496) (hs : s < 52) : quoinref18_Made.l0 (k + s + 1) rd l ((t * 2 ^ s : Nat) : Int) 0 0 = quoinref18_Made.j5 k rd l (t : Int) (s : Int) := by
  have e := rtop_tells rd l s t 0 k ht hb (by omega)
  rw [Nat.zero_add] at e
  exact e
theorem top0 {h t0 : Int} (ht0 : h % 4503599627370496 = t0) : h % 18446744073709551616 * 4096 % 18446744073709551616 / 4096 = t0 := by omega
set_option maxHeartbeats 400000 in
theorem large (rd n : Int) (r0 : 0 ≤ rd) (r1 : rd ≤ 31) (h0 : -9223372036854775808 ≤ n) (h1 : n < 9223372036854775808) (hs : ¬(-2147483648 ≤ n ∧ n ≤ 2147483647)) :
    ∃ z : Int, ((hi n ≤ z ∧ z ≤ 0) ∨ (0 ≤ z ∧ z ≤ hi n) ∨ (hi n = 2251799813685248 ∧ -2251799813685248 ≤ z ∧ z ≤ 0)) ∧ ∀ (m K : Nat) (lz : List S33), m ≤ 100 → 100 ≤ K → (∀ k, K ≤ k → li_steps.f k rd z = some lz ∧ quoinref18_Made.f k rd z = some lz) → Good rd z m lz →
      ∃ l, (∀ k, K + 250 ≤ k → li_steps.f k rd n = some l ∧ quoinref18_Made.f k rd n = some l) ∧ Good rd n (m + 1) l := by
  have hl := lo_range n
  have hsum := parts_sum n
  have hh := hi_range h0 h1
  have f12 : bits_Fits.f n 12 = some false := by
    rw [show (12 : Int) = ((12 : Nat) : Int) from rfl, fits_ok h0 h1 (by decide) (by decide), decide_eq_false (by simp; omega)]
  have f32 : bits_Fits.f n 32 = some false := by
    rw [show (32 : Int) = ((32 : Nat) : Int) from rfl, fits_ok h0 h1 (by decide) (by decide), decide_eq_false (by simp; omega)]
  obtain ⟨t0, ht0⟩ := Int.eq_ofNat_of_zero_le (by omega : 0 ≤ hi n % 4503599627370496)
  obtain ⟨s, t, e, hodd, hs52, htlt⟩ := tz 52 t0 (by omega) (by omega)
  have hP := Nat.two_pow_pos s
  have e52 : 2 ^ (52 - s) * 2 ^ s = 4503599627370496 := by rw [← Nat.pow_add, show 52 - s + s = 52 from by omega]
  have e51 : 2 ^ (52 - s - 1) * 2 ^ s = 2251799813685248 := by rw [← Nat.pow_add, show 52 - s - 1 + s = 51 from by omega]
  have zs : sgn t (52 - s) * ((2 ^ s : Nat) : Int) = if t0 < 2251799813685248 then (t0 : Int) else (t0 : Int) - 4503599627370496 := by
    unfold sgn
    rw [← cast_pow]
    by_cases h : t < 2 ^ (52 - s - 1)
    · have : t0 < 2251799813685248 := by rw [e, ← e51]; exact Nat.mul_lt_mul_of_pos_right h hP
      rw [if_pos h, if_pos this, e, Int.natCast_mul]
    · have : 2251799813685248 ≤ t0 := by rw [e, ← e51]; exact Nat.mul_le_mul_right _ (by omega)
      rw [if_neg h, if_neg (by omega), Int.sub_mul, ← Int.natCast_mul, ← Int.natCast_mul, e52, ← e]
      rfl
  refine ⟨sgn t (52 - s), ?_, ?_⟩
  · by_cases hc : hi n = 2251799813685248
    · have ht : t0 = 2251799813685248 := by omega
      rw [ht, if_neg (by decide)] at zs
      rcases mul_bound (by omega : (1 : Int) ≤ ((2 ^ s : Nat) : Int)) zs with ⟨a, b⟩ | ⟨a, b⟩
      · exact .inr (.inr ⟨hc, by omega, b⟩)
      · omega
    · have zh : sgn t (52 - s) * ((2 ^ s : Nat) : Int) = hi n := by
        rw [zs]
        split <;> omega
      rcases mul_bound (by omega : (1 : Int) ≤ ((2 ^ s : Nat) : Int)) zh with a | a
      · exact .inl a
      · exact .inr (.inl a)
  · intro m K lz hm hK hz hg
    have ZS := Aside0.mk zs
    have HT := Aside0.mk htlt
    have E := Aside0.mk e
    have T0 := Aside0.mk ht0
    have b1 : t * 2 ^ s < 4503599627370496 := by rw [← e]; omega
    clear zs htlt e51 e52 e ht0
    have hlen : lz.length ≤ 200 := by have := hg.le; omega
    have slli1 := one_slli (imm := ((12 + s : Nat) : Int)) r0 r1 (by omega) (by omega)
    have w12 : wrap64 (12 + (s : Int)) = ((12 + s : Nat) : Int) := by rw [BitF.w64 (by omega) (by omega)]; omega
    have W12 := Aside0.mk w12
    have HODD := Aside0.mk hodd
    clear w12 hodd
    have lihead : ∀ k, K + 250 ≤ k → li_steps.f k rd n = (if lo n = 0 then some (lz ++ [(⟨28, rd, rd, 0, ((12 + s : Nat) : Int)⟩ : S33)]) else some ((lz ++ [(⟨28, rd, rd, 0, ((12 + s : Nat) : Int)⟩ : S33)]) ++ [(⟨22, rd, rd, 0, lo n⟩ : S33)])) := by
      intro k hk
      obtain ⟨k, rfl⟩ : ∃ q, k = q + 1 := ⟨k - 1, by omega⟩
      rw [li_steps.f, parts_tells h0 h1, Option.bind_some, f12, Option.bind_some, if_neg (by decide), f32, Option.bind_some, if_neg (by decide)]
      simp only []
      have tt := top_tells0 s t k HODD.out (Nat.lt_trans b1 (by decide)) hs52 (by omega)
      rw [(top0 T0.out).trans (congrArg (fun x : Nat => (x : Int)) E.out), tt, Option.bind_some]
      simp only []
      rw [cut_sgn hs52 HT.out, W12.out, if_pos (by omega), (hz k (by omega)).1, Option.bind_some, if_pos (by omega)]
    have rhead : ∀ k, K + 250 ≤ k → quoinref18_Made.f k rd n = (if lo n = 0 then some (lz ++ [(⟨28, rd, rd, 0, ((12 + s : Nat) : Int)⟩ : S33)]) else some ((lz ++ [(⟨28, rd, rd, 0, ((12 + s : Nat) : Int)⟩ : S33)]) ++ [(⟨22, rd, rd, 0, lo n⟩ : S33)])) := by
      intro k hk
      obtain ⟨k, rfl⟩ : ∃ q, k = (q + 2 + s + 1) + 4 := ⟨k - (s + 7), by omega⟩
      have j6 : ∀ Z : Int, Z = sgn t (52 - s) → quoinref18_Made.j6 (k + 1) rd (lo n) Z (s : Int) = (if lo n = 0 then some (lz ++ [(⟨28, rd, rd, 0, ((12 + s : Nat) : Int)⟩ : S33)]) else some ((lz ++ [(⟨28, rd, rd, 0, ((12 + s : Nat) : Int)⟩ : S33)]) ++ [(⟨22, rd, rd, 0, lo n⟩ : S33)])) := by
        rintro Z rfl
        rw [quoinref18_Made.j6, (hz k (by omega)).2, Option.bind_some, step_tells rof_slli _ _ _ (by omega), Option.bind_some, if_pos (by omega), Option.bind_some, W12.out]
        by_cases hlo : lo n = 0
        · rw [if_pos hlo, if_pos hlo]
        · rw [if_neg hlo, if_neg hlo, step_tells rof_addi _ _ _ (by omega), Option.bind_some, if_pos (by simp; omega)]
      have j5 : quoinref18_Made.j5 (k + 2) rd (lo n) (t : Int) (s : Int) = quoinref18_Made.j6 (k + 1) rd (lo n) (sgn t (52 - s)) (s : Int) := by
        rw [quoinref18_Made.j5, BitF.w64 (x := 51 - (s : Int)) (by omega) (by omega), BitF.w64 (x := 52 - (s : Int)) (by omega) (by omega), show (51 : Int) - (s : Int) = ((52 - s - 1 : Nat) : Int) from by omega, show (52 : Int) - (s : Int) = ((52 - s : Nat) : Int) from by omega,
          two_tells (by omega) (by omega), Option.bind_some]
        have htlt := HT.out
        have hpow : 2 ^ (52 - s) ≤ 4503599627370496 := Nat.pow_le_pow_right (n := 2) (by decide) (by omega : 52 - s ≤ 52)
        unfold sgn
        rw [← cast_pow]
        by_cases h : t < 2 ^ (52 - s - 1)
        · rw [if_neg (by omega), if_pos h]
        · rw [if_pos (by omega), if_neg h, two_tells (by omega) (by omega), Option.bind_some, BitF.w64 (by omega) (by omega)]
      have l0 : quoinref18_Made.j3 (k + 2 + s + 2) rd (lo n) (hi n % 4503599627370496) = quoinref18_Made.j6 (k + 1) rd (lo n) (sgn t (52 - s)) (s : Int) := by
        rw [show k + 2 + s + 2 = (k + 2 + s + 1) + 1 from by omega, quoinref18_Made.j3, T0.out, E.out]
        exact (rtop_tells0 rd (lo n) s t (k + 2) HODD.out b1 hs52).trans j5
      have j0 : quoinref18_Made.j0 ((k + 2 + s + 1) + 3) rd n (hi n) (lo n) false = quoinref18_Made.j6 (k + 1) rd (lo n) (sgn t (52 - s)) (s : Int) := by
        have j1 : quoinref18_Made.j1 ((k + 2 + s + 1) + 2) rd (hi n) (lo n) false = quoinref18_Made.j6 (k + 1) rd (lo n) (sgn t (52 - s)) (s : Int) := by
          rw [quoinref18_Made.j1, if_neg (by decide), show (52 : Int) = ((52 : Nat) : Int) from rfl, two_tells (by decide) (by omega), Option.bind_some, if_neg (by decide), show ((2 ^ 52 : Nat) : Int) = 4503599627370496 from rfl]
          rcases tmod_cases (hi n) (by decide : (0 : Int) < 4503599627370496) with ⟨hn, ht⟩ | ⟨hn, ht⟩
          · rw [ht, if_neg (by omega)]; exact l0
          · rw [ht]
            by_cases hz : (-(hi n)) % 4503599627370496 = 0
            · have ht0 := T0.out; have e := E.out; omega
            · rw [if_pos (by omega), BitF.w64 (by omega) (by omega), show -((-(hi n)) % 4503599627370496) + 4503599627370496 = hi n % 4503599627370496 from by omega]; exact l0
        rw [quoinref18_Made.j0, if_neg (by decide)]
        by_cases h : n ≥ -2147483648
        · rw [if_pos h, decide_eq_false (by omega)]; exact j1
        · rw [if_neg h]; exact j1
      rw [quoinref18_Made.f, rparts_tells h0 h1, Option.bind_some]
      by_cases h : n ≥ -2048
      · rw [if_pos h, decide_eq_false (by omega)]; exact j0.trans (j6 _ rfl)
      · rw [if_neg h]; exact j0.trans (j6 _ rfl)
    have hrun : rd ≠ 0 → ∀ x, run rd x (lz ++ [(⟨28, rd, rd, 0, ((12 + s : Nat) : Int)⟩ : S33)]) = (4096 * hi n) % 18446744073709551616 := by
      intro hr x
      rw [run_append, hg.has hr]
      simp only [run, if_neg hr, stp]
      rw [if_neg (by decide), if_neg (by decide), if_neg (by decide), if_pos trivial]
      unfold shl
      rw [Int.toNat_natCast, show min (12 + s) (IntKind.u64).bits = 12 + s from Nat.min_eq_left (by simp [IntKind.bits]; omega), IntKind.wrap_u64, ← cast_pow, Int.mul_emod, Int.emod_emod_of_dvd _ (Int.dvd_refl _), ← Int.mul_emod]
      have : sgn t (52 - s) * ((2 ^ (12 + s) : Nat) : Int) = 4096 * (sgn t (52 - s) * ((2 ^ s : Nat) : Int)) := by
        rw [Nat.pow_add, Int.natCast_mul, ← Int.mul_assoc, Int.mul_comm (sgn t (52 - s)) ((2 ^ 12 : Nat) : Int), Int.mul_assoc]
        rw [show ((2 ^ 12 : Nat) : Int) = 4096 from rfl]
      have ht0 := T0.out
      rw [this, ZS.out]
      split <;> omega
    by_cases hlo : lo n = 0
    · refine ⟨_, fun k hk => ⟨(lihead k hk).trans (if_pos hlo), (rhead k hk).trans (if_pos hlo)⟩, fun i hi => ?_, by simp, by have := hg.le; simp; omega, fun hr x => ?_⟩
      · rcases List.mem_append.1 hi with h | h
        · exact hg.one i h
        · rw [List.mem_singleton.1 h]; exact slli1
      · rw [hrun hr]
        congr 1
        omega
    · refine ⟨_, fun k hk => ⟨(lihead k hk).trans (if_neg hlo), (rhead k hk).trans (if_neg hlo)⟩, fun i hi => ?_, by simp, by have := hg.le; simp; omega, fun hr x => ?_⟩
      · rcases List.mem_append.1 hi with h | h
        · rcases List.mem_append.1 h with h | h
          · exact hg.one i h
          · rw [List.mem_singleton.1 h]; exact slli1
        · rw [List.mem_singleton.1 h]; exact one_addi r0 r1 (.inl rfl) hl.1 hl.2
      · rw [run_append, hrun hr]
        simp only [run, if_neg hr, stp, if_true]
        omega
theorem all1 (rd n : Int) (r0 : 0 ≤ rd) (r1 : rd ≤ 31) (h0 : -2147483648 ≤ n) (h1 : n ≤ 2147483647) :
    ∃ l, (∀ k, 250 ≤ k → li_steps.f k rd n = some l ∧ quoinref18_Made.f k rd n = some l) ∧ Good rd n 1 l ∧ ((-2048 ≤ n ∧ n ≤ 2047) → l.length = 1) := by
  by_cases hs : -2048 ≤ n ∧ n ≤ 2047
  · exact ⟨_, fun k hk => ⟨(small rd n r0 r1 hs.1 hs.2 k hk).1, (small rd n r0 r1 hs.1 hs.2 k hk).2.1⟩, (small rd n r0 r1 hs.1 hs.2 250 (by decide)).2.2, fun _ => rfl⟩
  · obtain ⟨l, a, b, c⟩ := middle rd n r0 r1 hs h0 h1 250 (by decide)
    exact ⟨l, fun k hk => ⟨up (li_steps.mono _ _) a k hk, up (quoinref18_Made.mono _ _) b k hk⟩, c, fun h => absurd h hs⟩
theorem next (rd : Int) (r0 : 0 ≤ rd) (r1 : rd ≤ 31) (B C : Int) (m K : Nat) (hB : 2147483648 ≤ B) (hC : C ≤ 9223372036854775808) (hm : m ≤ 100) (hK : 100 ≤ K) (hBC : C ≤ 4096 * B - 2048) (hB2 : 2251799813685248 ≤ B ∨ C ≤ 9223372036854773760)
    (ih : ∀ n : Int, -B ≤ n → n ≤ B → n < 9223372036854775808 → ∃ l, (∀ k, K ≤ k → li_steps.f k rd n = some l ∧ quoinref18_Made.f k rd n = some l) ∧ Good rd n m l) :
    ∀ n : Int, -C ≤ n → n ≤ C → n < 9223372036854775808 → ∃ l, (∀ k, K + 250 ≤ k → li_steps.f k rd n = some l ∧ quoinref18_Made.f k rd n = some l) ∧ Good rd n (m + 1) l := by
  intro n h0 h1 h2
  by_cases hs : -2147483648 ≤ n ∧ n ≤ 2147483647
  · obtain ⟨l, a, b⟩ := ih n (by omega) (by omega) h2
    exact ⟨l, fun k hk => a k (by omega), b.one, b.ge, by have := b.le; omega, b.has⟩
  · obtain ⟨z, zb, zf⟩ := large rd n r0 r1 (by omega) h2 hs
    have hsum := parts_sum n
    have hl := lo_range n
    obtain ⟨lz, a, b⟩ := ih z (by omega) (by omega) (by omega)
    exact zf m K lz hm hK a b
theorem all4 (rd n : Int) (r0 : 0 ≤ rd) (r1 : rd ≤ 31) (h0 : -9223372036854775808 ≤ n) (h1 : n < 9223372036854775808) :
    ∃ l, (∀ k, 1000 ≤ k → li_steps.f k rd n = some l ∧ quoinref18_Made.f k rd n = some l) ∧ Good rd n 4 l := by
  have l1 : ∀ n : Int, -2147483647 ≤ n → n ≤ 2147483647 → n < 9223372036854775808 → ∃ l, (∀ k, 250 ≤ k → li_steps.f k rd n = some l ∧ quoinref18_Made.f k rd n = some l) ∧ Good rd n 1 l := fun n a b _ => by
    obtain ⟨l, x, y, _⟩ := all1 rd n r0 r1 (by omega) (by omega)
    exact ⟨l, x, y⟩
  have l2 : ∀ n : Int, -4398046511104 ≤ n → n ≤ 4398046511104 → n < 9223372036854775808 → ∃ l, (∀ k, 500 ≤ k → li_steps.f k rd n = some l ∧ quoinref18_Made.f k rd n = some l) ∧ Good rd n 2 l := by
    intro n a b c
    by_cases hs : -2147483648 ≤ n ∧ n ≤ 2147483647
    · obtain ⟨l, x, y, _⟩ := all1 rd n r0 r1 hs.1 hs.2
      exact ⟨l, fun k hk => x k (by omega), y.one, y.ge, by have := y.le; omega, y.has⟩
    · obtain ⟨z, zb, zf⟩ := large rd n r0 r1 (by omega) c hs
      have hsum := parts_sum n
      have hl := lo_range n
      obtain ⟨lz, x, y, _⟩ := all1 rd z r0 r1 (by omega) (by omega)
      exact zf 1 250 lz (by decide) (by decide) x y
  have l3 := next rd r0 r1 4398046511104 9007199254740992 2 500 (by decide) (by decide) (by decide) (by decide) (by decide) (.inr (by decide)) l2
  have l4 := next rd r0 r1 9007199254740992 9223372036854775808 3 750 (by decide) (by decide) (by decide) (by decide) (by decide) (.inl (by decide)) l3
  exact l4 n h0 (by omega) h1
end Go.Proofs.YtpijiohiohiilaaDoor.LiF
