/- LiShort, the plain law: how many instructions a number takes at most, and that they read and write their own register alone. No condition. -/
import Derived.Test.YtpijiohiohiilaaDoorDLiShort
import Derived.Test.YtpijiohiohiilaaDoorLiJ
import Derived.Test.YtpijiohiohiilaaDoorWf
namespace Go.Proofs.YtpijiohiohiilaaDoor.Pure
set_option linter.unusedVariables false
open Go Go.RowKit Go.Proofs.YtpijiohiohiilaaDoor.D Go.Proofs.YtpijiohiohiilaaDoor.LiF Go.Proofs.YtpijiohiohiilaaDoor.CheckF
theorem alive18s : ∀ k, 200 ≤ k → quoinlaw18_alive.f k = some true := up quoinlaw18_alive.mono (by decide +kernel)
theorem short_all (rd n : Int) (r0 : 0 ≤ rd) (r1 : rd ≤ 31) (h0 : -9223372036854775808 ≤ n) (h1 : n < 9223372036854775808) :
    ∃ l, (∀ k, 1000 ≤ k → li_steps.f k rd n = some l) ∧ LiF.Good rd n 4 l ∧ ((-2048 ≤ n ∧ n < 2048) → l.length = 1) ∧ ((-2147483648 ≤ n ∧ n < 2147483648) → l.length ≤ 2) := by
  by_cases hs : -2147483648 ≤ n ∧ n ≤ 2147483647
  · obtain ⟨l, a, b, c⟩ := all1 rd n r0 r1 hs.1 hs.2
    exact ⟨l, fun k hk => a k (by omega), ⟨b.one, b.ge, by have := b.le; omega, b.has⟩, fun h => c (by omega), fun _ => b.le⟩
  · obtain ⟨l, a, b⟩ := all4 rd n r0 r1 h0 h1
    exact ⟨l, fun k hk => a k hk, b, fun h => by omega, fun h => by omega⟩
theorem nth_mem (l : List S33) (i : Nat) (h : i < l.length) : rd_T33 l (i : Int) ∈ l := by
  unfold rd_T33
  rw [Int.toNat_natCast, List.getD_eq_getElem?_getD, List.getElem?_eq_getElem h]
  exact List.getElem_mem h
theorem check_one {rd : Int} {i : S33} (h : LiF.One rd i) {k : Nat} (hk : 20 ≤ k) : insn_Check.f k i.f0 i.f1 i.f2 i.f3 i.f4 = some 0 := by
  obtain ⟨op, e, ho⟩ : ∃ op : Nat, i.f0 = (op : Int) ∧ op < 256 := by
    rcases h.op with e | e | e | e
    · exact ⟨22, e, by decide⟩
    · exact ⟨41, e, by decide⟩
    · exact ⟨1, e.1, by decide⟩
    · exact ⟨28, e.1, by decide⟩
  have hm := h.may
  rw [e, Int.toNat_natCast] at hm
  rw [e, check_tells ho _ _ _ _ h.lo h.hi hk, if_pos hm]
theorem short_l0 (rd : Int) (l : List S33) (hl : l.length < 1000) (ho : ∀ i ∈ l, LiF.One rd i) : ∀ m i k : Nat, i + m = l.length → m + 50 < k → quoinlaw18_LiShort.l0 k rd l (i : Int) = some true
  | 0, i, k, h, hk => by
    obtain ⟨k, rfl⟩ : ∃ m, k = m + 1 := ⟨k - 1, by omega⟩
    simp only [quoinlaw18_LiShort.l0]
    rw [if_neg (by omega)]
  | m + 1, i, k, h, hk => by
    obtain ⟨k, rfl⟩ : ∃ m, k = m + 1 := ⟨k - 1, by omega⟩
    have h1 := ho _ (nth_mem l i (by omega))
    have key := short_l0 rd l hl ho m (i + 1) k (by omega) (by omega)
    simp only [quoinlaw18_LiShort.l0]
    rw [if_pos (by omega), if_pos (by omega), check_one h1 (by omega), Option.bind_some, if_pos rfl, if_pos h1.isrd, if_pos h1.rs2, BitF.w64 (by omega) (by omega), show (i : Int) + 1 = ((i + 1 : Nat) : Int) from rfl, key]
    rcases h1.rs1 with e | e
    · rw [if_pos e]
    · by_cases e' : (rd_T33 l (i : Int)).f2 = rd
      · rw [if_pos e']
      · rw [if_neg e', if_pos e]
theorem short_j0 (rd n : Int) (l : List S33) (a : 1 ≤ l.length) (b : l.length ≤ 8) (c : (-2048 ≤ n ∧ n < 2048) → l.length = 1) (d : (-2147483648 ≤ n ∧ n < 2147483648) → l.length ≤ 2) (k : Nat) :
    quoinlaw18_LiShort.j0 (k + 1) rd n l false = quoinlaw18_LiShort.j1 k rd l false := by
  have hd : decide ((l.length : Int) > 8) = false := decide_eq_false (by omega)
  simp only [quoinlaw18_LiShort.j0, hd]
  rw [if_neg (by decide)]
  repeat' split
  all_goals first | rfl | (exfalso; omega)
theorem LiShort : ∀ (a0 : Int) (a1 : Int), (Lit.int .i64 a0).wf = true → (Lit.int .i64 a1).wf = true → ∃ k, quoinlaw18_LiShort.f k a0 a1 = some true := by
  intro rd n w0 w1
  obtain ⟨h0, h1⟩ := Wf.i64 w1
  refine ⟨1000, ?_⟩
  have bad : (quoinlaw18_LiShort.j0 1000 rd n [] true) = some true := by
    simp only [quoinlaw18_LiShort.j0]
    rw [if_pos trivial, alive18s 999 (by decide)]
    rfl
  unfold quoinlaw18_LiShort.f li_Steps.f
  by_cases r0 : rd < 0
  · rw [if_pos r0, Option.bind_some]
    simp only []
    rw [if_neg (by decide)]
    exact bad
  · rw [if_neg r0]
    by_cases r1 : rd > 31
    · rw [if_pos r1, Option.bind_some]
      simp only []
      rw [if_neg (by decide)]
      exact bad
    · obtain ⟨l, a, b, c, d⟩ := short_all rd n (by omega) (by omega) h0 h1
      have hl := b.le
      rw [if_neg r1, a 1000 (by decide)]
      simp only [Option.bind_some]
      rw [if_pos trivial, alive18s 1000 (by decide), Option.bind_some]
      simp only [Bool.not_true]
      rw [short_j0 rd n l b.ge (by omega) c d 999]
      simp only [quoinlaw18_LiShort.j1]
      rw [if_neg (by decide)]
      exact short_l0 rd l (by omega) b.one l.length 0 998 (by omega) (by omega)
end Go.Proofs.YtpijiohiohiilaaDoor.Pure
