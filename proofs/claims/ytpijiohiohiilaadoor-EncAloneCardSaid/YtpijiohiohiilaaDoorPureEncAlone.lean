/- EncAlone, the plain law: no two instructions have one word; each field is had back of it, and all else is the base's. No condition. -/
import Derived.Test.YtpijiohiohiilaaDoorDEncAlone
import Derived.Test.YtpijiohiohiilaaDoorFormB
import Derived.Test.YtpijiohiohiilaaDoorWf
namespace Go.Proofs.YtpijiohiohiilaaDoor.Pure
set_option linter.unusedVariables false
open Go Go.RowKit Go.Proofs.YtpijiohiohiilaaDoor.D Go.Proofs.YtpijiohiohiilaaDoor.InsnF Go.Proofs.YtpijiohiohiilaaDoor.CheckF Go.Proofs.YtpijiohiohiilaaDoor.BitL Go.Proofs.YtpijiohiohiilaaDoor.BitF Go.Proofs.YtpijiohiohiilaaDoor.EncF Go.Proofs.YtpijiohiohiilaaDoor.DecF Go.Proofs.YtpijiohiohiilaaDoorW.PrintWords Go.Proofs.YtpijiohiohiilaaDoorW.PrintMore
theorem alive3 : ∀ k, 300 ≤ k → quoinlaw03_alive.f k = some true := up quoinlaw03_alive.mono (by decide +kernel)
theorem field_tells {w p : Nat} (hw : w < 4294967296) (hp : p + 5 ≤ 32) : quoinlaw03_field.f (w : Int) (p : Int) = some ((takeN w p 5 : Nat) : Int) := by
  have hl : takeN w p 5 < 32 := takeN_lt w p 5
  unfold quoinlaw03_field.f
  rw [show (5 : Int) = ((5 : Nat) : Int) from rfl, take_ok hw (by decide) hp, Option.bind_some]
  simp only []
  rw [BitF.w64 (by omega) (by omega)]
theorem cut_tells (X : Int) {n : Nat} (h1 : 1 ≤ n) (h2 : n ≤ 32) : shr .u32 (shl .u32 (X % 4294967296) (wrap64 (32 - (n : Int)))) (wrap64 (32 - (n : Int))) = ((X % ((2 ^ n : Nat) : Int)).toNat : Int) := by
  obtain ⟨y, hy⟩ := Int.eq_ofNat_of_zero_le (by omega : 0 ≤ X % 4294967296)
  have e32 : 2 ^ n * 2 ^ (32 - n) = 4294967296 := by rw [← Nat.pow_add, show n + (32 - n) = 32 from by omega]
  rw [BitF.w64 (by omega) (by omega), show (32 : Int) - (n : Int) = ((32 - n : Nat) : Int) from by omega, hy, shl_u32, shr_u32 _ _ (Nat.mod_lt _ (by decide))]
  have a : y * 2 ^ (32 - n) % 4294967296 / 2 ^ (32 - n) = y % 2 ^ n := by
    rw [← e32, Nat.mul_mod_mul_right, Nat.mul_div_cancel _ (Nat.two_pow_pos _)]
  have b : ((y % 2 ^ n : Nat) : Int) = X % ((2 ^ n : Nat) : Int) := by
    rw [Int.natCast_emod, ← hy]
    exact Int.emod_emod_of_dvd X ⟨((2 ^ (32 - n) : Nat) : Int), by rw [← Int.natCast_mul, e32]; rfl⟩
  rw [a]
  omega
theorem or_five (a e b c d : Nat) : (((a ||| b) ||| c) ||| d) ||| e = (((a ||| e) ||| b) ||| c) ||| d := by
  refine Nat.eq_of_testBit_eq fun j => ?_
  simp only [Nat.testBit_or]
  cases a.testBit j <;> cases b.testBit j <;> cases c.testBit j <;> cases d.testBit j <;> cases e.testBit j <;> rfl
theorem last_tells {k : Nat} {W B n n' d s t : Int} {pl : List Int} {i0 imm : Int} {S : Int} (hn : n = n') (h7 : d ≠ 0 → quoinlaw03_field.f W 7 = some d) (h15 : s ≠ 0 → quoinlaw03_field.f W 15 = some s) (h20 : t ≠ 0 → quoinlaw03_field.f W 20 = some t)
    (hs : bits_Scatter.f k n pl = some (S, 0)) (hW : W = Go.bits .or .u32 (Go.bits .or .u32 (Go.bits .or .u32 (Go.bits .or .u32 B S) ((d % 4294967296 * 128) % 4294967296)) ((s % 4294967296 * 32768) % 4294967296)) ((t % 4294967296 * 1048576) % 4294967296))
    (hz : Go.bits .and .u32 B S = 0) : quoinlaw03_EncAlone.j5 (k + 1) W B pl n n' i0 d s t imm = some true := by
  simp only [quoinlaw03_EncAlone.j5]
  rw [if_pos hn]
  by_cases h1 : d = 0 <;> by_cases h2 : s = 0 <;> by_cases h3 : t = 0 <;>
    (first | rw [if_pos h1] | rw [if_neg h1, h7 h1, Option.bind_some, if_pos rfl]) <;>
    (first | rw [if_pos h2] | rw [if_neg h2, h15 h2, Option.bind_some, if_pos rfl]) <;>
    (first | rw [if_pos h3] | rw [if_neg h3, h20 h3, Option.bind_some, if_pos rfl]) <;>
    (rw [hs, Option.bind_some]; simp only []; rw [if_pos trivial, if_pos hW, hz]; rfl)
theorem EncAlone : ∀ (a0_0 a0_1 a0_2 a0_3 a0_4 : Int) (a1_0 a1_1 a1_2 a1_3 a1_4 : Int), (Lit.int .u8 a0_0).wf = true → (Lit.int .i64 a0_1).wf = true → (Lit.int .i64 a0_2).wf = true → (Lit.int .i64 a0_3).wf = true → (Lit.int .i64 a0_4).wf = true → (Lit.int .u8 a1_0).wf = true → (Lit.int .i64 a1_1).wf = true → (Lit.int .i64 a1_2).wf = true → (Lit.int .i64 a1_3).wf = true → (Lit.int .i64 a1_4).wf = true → ∃ k, quoinlaw03_EncAlone.f k a0_0 a0_1 a0_2 a0_3 a0_4 a1_0 a1_1 a1_2 a1_3 a1_4 = some true := by
  intro i0 i1 i2 i3 i4 j0 j1 j2 j3 j4 w0 _ _ _ w4 v0 _ _ _ v4
  obtain ⟨c0, c0'⟩ := Wf.u8 w0
  obtain ⟨d0, d0'⟩ := Wf.i64 w4
  obtain ⟨e0, e0'⟩ := Wf.u8 v0
  obtain ⟨g0, g0'⟩ := Wf.i64 v4
  obtain ⟨op, rfl⟩ := Int.eq_ofNat_of_zero_le c0
  obtain ⟨oq, rfl⟩ := Int.eq_ofNat_of_zero_le e0
  refine ⟨506, ?_⟩
  unfold quoinlaw03_EncAlone.f
  rw [alive3 506 (by decide), Option.bind_some, word_tells (by omega) _ _ _ _ d0 d0' (by decide), Option.bind_some, word_tells (by omega) _ _ _ _ g0 g0' (by decide), Option.bind_some]
  by_cases hm : mayB op i1 i2 i3 i4 = true
  · obtain ⟨hW, hh, hA⟩ := dec_enc hm
    obtain ⟨d, s, t, rfl, rfl, rfl, hd, hs, ht, bd, bs, bt, h1, h2, hn⟩ := may_parts hm
    simp only [Int.toNat_natCast] at hW hh hA ⊢
    have ho : op < 256 := by omega
    have hin := form_in op ho
    have h0 : formN op ≠ 0 := fun e => (form_zero op ho).1 e ⟨h1, h2⟩
    obtain ⟨hnd, hlt, hlen⟩ := places_ok _ hin
    obtain ⟨r1, r2, r3⟩ := word_regs (imm := i4) h1 h2 hd hs ht bd bs bt
    have rn := word_num h1 h2 hd hs ht bd bs bt hn
    have hg := gath_lt (wordN op d s t i4) (placesN (formN op)) 0
    rw [Nat.zero_add] at hg
    have hcode : gath (wordN op d s t i4) 0 (placesN (formN op)) = codeN (formN op) i4 := by
      have := (numV_ok _ hin h0 _ hg).2
      unfold numN at rn
      rw [rn] at this
      exact this.symm
    have same : mayB oq j1 j2 j3 j4 = true → ((((wordN op d s t i4 : Nat) : Int) == ((wordN oq j1.toNat j2.toNat j3.toNat j4 : Nat) : Int)) != ((op : Int) == (oq : Int) && ((d : Int) == j1 && ((s : Int) == j2 && ((t : Int) == j3 && (i4 == j4)))))) = false := by
      intro hq
      obtain ⟨qW, qh, qA⟩ := dec_enc hq
      obtain ⟨_, _, _, _, _, _, _, _, _, _, _, _, q1, q2, _⟩ := may_parts hq
      rw [bne_eq_false_iff_eq, Bool.eq_iff_iff]
      simp only [Bool.and_eq_true, beq_iff_eq]
      constructor
      · intro e
        have e := Int.ofNat.inj e
        rw [← e] at qh qA
        have := hits_one h1 h2 q1 q2 hh qh
        subst this
        rw [hA] at qA
        simp only [Prod.mk.injEq] at qA
        exact ⟨rfl, qA.2.1, qA.2.2.1, qA.2.2.2.1, qA.2.2.2.2.1⟩
      · rintro ⟨e1, rfl, rfl, rfl, rfl⟩
        have e1 := Int.ofNat.inj e1
        subst e1
        rfl
    generalize hWd : wordN op d s t i4 = W at *
    rw [if_pos hm]
    simp only []
    rw [if_pos trivial]
    simp only [Bool.not_true]
    have tail : quoinlaw03_EncAlone.j1 505 (W : Int) false (op : Int) (d : Int) (s : Int) (t : Int) i4 = some true := by
      have hpl := up (enc_Places.mono _) (places_tells _ hin h0) 504 (by decide)
      simp only [quoinlaw03_EncAlone.j1]
      rw [if_neg (by decide), form_tells op ho, Option.bind_some, base_tells op ho, Option.bind_some]
      simp only []
      rw [hpl, Option.bind_some]
      simp only []
      rw [gather_ok hlt hnd (by omega) hW (by omega), Option.bind_some, if_pos (⟨h1, h2⟩ : 1 ≤ op ∧ op ≤ 94), if_pos (⟨h1, h2⟩ : 1 ≤ op ∧ op ≤ 94)]
      simp only []
      rw [if_pos trivial, if_pos trivial, if_pos trivial]
      have l4 : ∀ X : Int, X % 4294967296 % ((2 ^ (placesN (formN op)).length : Nat) : Int) = (if formN op = 74 ∨ formN op = 66 then i4 / 2 else i4) % 4294967296 % ((2 ^ (placesN (formN op)).length : Nat) : Int) → ∀ k, 50 ≤ k →
          quoinlaw03_EncAlone.j4 (k + 2) (W : Int) ((baseN op : Nat) : Int) (ints (placesN (formN op))) ((gath W 0 (placesN (formN op)) : Nat) : Int) X (op : Int) (d : Int) (s : Int) (t : Int) i4 = some true := by
        intro X hX k hk
        have hll : ((ints (placesN (formN op))).length : Int) = (((placesN (formN op)).length : Nat) : Int) := by simp
        have e32 : 2 ^ (placesN (formN op)).length * 2 ^ (32 - (placesN (formN op)).length) = 4294967296 := by rw [← Nat.pow_add, show (placesN (formN op)).length + (32 - (placesN (formN op)).length) = 32 from by omega]
        have dv : ((2 ^ (placesN (formN op)).length : Nat) : Int) ∣ 4294967296 := ⟨((2 ^ (32 - (placesN (formN op)).length) : Nat) : Int), by rw [← Int.natCast_mul, e32]; rfl⟩
        rw [Int.emod_emod_of_dvd _ dv, Int.emod_emod_of_dvd _ dv] at hX
        have hS := scat_lt (gath W 0 (placesN (formN op))) (n := 32) (placesN (formN op)) 0 hlt
        have hB := base_lt op (by omega)
        have fin : ∀ n' : Int, ((gath W 0 (placesN (formN op)) : Nat) : Int) = n' → quoinlaw03_EncAlone.j5 (k + 1) (W : Int) ((baseN op : Nat) : Int) (ints (placesN (formN op))) ((gath W 0 (placesN (formN op)) : Nat) : Int) n' (op : Int) (d : Int) (s : Int) (t : Int) i4 = some true := by
          intro n' hn'
          have fl : ∀ (b : Bool) (p x : Nat), p + 5 ≤ 32 → regN b p W = x → (b = false → x = 0) → (x : Int) ≠ 0 → quoinlaw03_field.f (W : Int) (p : Int) = some (x : Int) := by
            intro b p x hp hr hb hx
            rw [field_tells hW hp]
            cases b with
            | false => exact absurd (by rw [hb rfl]; rfl) hx
            | true => rw [← hr]; rfl
          refine last_tells hn' (fl _ 7 d (by decide) r1 bd) (fl _ 15 s (by decide) r2 bs) (fl _ 20 t (by decide) r3 bt) (scatter_ok hlt hnd (by omega) hg (by omega)) ?_ ?_
          · rw [show (128 : Int) = ((128 : Nat) : Int) from rfl, show (32768 : Int) = ((32768 : Nat) : Int) from rfl, show (1048576 : Int) = ((1048576 : Nat) : Int) from rfl,
              reg_term d 128 (by omega) (by omega), reg_term s 32768 (by omega) (by omega), reg_term t 1048576 (by omega) (by omega),
              u32_or_nat _ _ hB hS, u32_or_nat _ _ (or_lt hB hS) (by omega), u32_or_nat _ _ (or_lt (or_lt hB hS) (by omega)) (by omega), u32_or_nat _ _ (or_lt (or_lt (or_lt hB hS) (by omega)) (by omega)) (by omega)]
            congr 1
            rw [← hWd, hWd, hcode, ← hWd]
            unfold wordN
            exact or_five _ _ _ _ _
          · rw [u32_and_nat _ _ hB hS]
            have : baseN op &&& scat (gath W 0 (placesN (formN op))) 0 (placesN (formN op)) = 0 := by
              refine Nat.eq_of_testBit_eq fun j => ?_
              rw [Nat.testBit_and, Nat.zero_testBit]
              by_cases hj : j ∈ placesN (formN op)
              · obtain ⟨p1, p2⟩ := parts_of _ hin h0 j (hlt j hj)
                rw [base_bit h1 h2 j (by rw [p1, Bool.not_eq_false', decide_eq_true hj]; simp)]
                rfl
              · rw [scat_bit_in _ _ _ hj, Bool.and_false]
            rw [this]
            rfl
        simp only [quoinlaw03_EncAlone.j4]
        rw [hll]
        by_cases hz : (placesN (formN op)).length = 0
        · rw [if_neg (by omega)]
          refine fin 0 ?_
          rw [hz] at hg
          omega
        · rw [if_pos (by omega), if_pos (by rw [BitF.w64 (by omega) (by omega)]; omega), cut_tells X (by omega) (by omega)]
          refine fin _ ?_
          rw [hcode, hX]
          rfl
      simp only [quoinlaw03_EncAlone.j2]
      rw [if_neg (by decide)]
      by_cases h74 : formN op = 74
      · rw [if_pos (by omega)]
        simp only [quoinlaw03_EncAlone.j3]
        rw [if_pos trivial]
        refine l4 _ ?_ 500 (by decide)
        rw [if_pos (Or.inl h74)]
        unfold okNum at hn
        rw [h74, decide_eq_true_eq] at hn
        simp only [span] at hn
        rw [show wrap64 (Int.tdiv i4 2) = i4 / 2 from by rw [Int.tdiv_eq_ediv_of_dvd (by omega), BitF.w64 (by omega) (by omega)]]
      · rw [if_neg (by omega)]
        simp only [quoinlaw03_EncAlone.j3]
        by_cases h66 : formN op = 66
        · rw [if_pos (by rw [h66]; rfl)]
          refine l4 _ ?_ 500 (by decide)
          rw [if_pos (Or.inr h66)]
          unfold okNum at hn
          rw [h66, decide_eq_true_eq] at hn
          simp only [span] at hn
          rw [show wrap64 (Int.tdiv i4 2) = i4 / 2 from by rw [Int.tdiv_eq_ediv_of_dvd (by omega), BitF.w64 (by omega) (by omega)]]
        · have e66 : ((formN op : Int) == 66) = false := by rw [beq_eq_false_iff_ne]; omega
          rw [e66, if_neg (by decide)]
          refine l4 _ ?_ 500 (by decide)
          rw [if_neg (by omega)]
    simp only [quoinlaw03_EncAlone.j0]
    rw [if_neg (by decide)]
    by_cases hq : mayB oq j1 j2 j3 j4 = true
    · rw [if_pos hq]
      simp only []
      rw [if_pos trivial, same hq]
      exact tail
    · rw [if_neg hq]
      simp only []
      rw [if_neg (by decide)]
      exact tail
  · rw [if_neg hm]
    simp only []
    rw [if_neg (by decide)]
    simp only [quoinlaw03_EncAlone.j0]
    rw [if_pos trivial, if_pos trivial, if_pos trivial, check_tells (by omega) _ _ _ _ d0 d0' (by decide), Option.bind_some, if_neg hm]
    rfl
end Go.Proofs.YtpijiohiohiilaaDoor.Pure
