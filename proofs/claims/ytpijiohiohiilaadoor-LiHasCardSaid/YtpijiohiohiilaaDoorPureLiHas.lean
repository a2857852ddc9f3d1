/- LiHas, the plain law: the instructions, done one by one, leave the number in the register. No condition. -/
import Derived.Test.YtpijiohiohiilaaDoorDLiHas
import Derived.Test.YtpijiohiohiilaaDoorLiJ
import Derived.Test.YtpijiohiohiilaaDoorWf
namespace Go.Proofs.YtpijiohiohiilaaDoor.Pure
set_option linter.unusedVariables false
open Go Go.RowKit Go.Proofs.YtpijiohiohiilaaDoor.D Go.Proofs.YtpijiohiohiilaaDoor.LiF Go.Proofs.YtpijiohiohiilaaDoor.CheckF
theorem alive18h : ∀ k, 200 ≤ k → quoinlaw18_alive.f k = some true := up quoinlaw18_alive.mono (by decide +kernel)
theorem nth_memh (l : List S33) (i : Nat) (h : i < l.length) : rd_T33 l (i : Int) ∈ l := by
  unfold rd_T33
  rw [Int.toNat_natCast, List.getD_eq_getElem?_getD, List.getElem?_eq_getElem h]
  exact List.getElem_mem h
theorem check_oneh {rd : Int} {i : S33} (h : LiF.One rd i) {k : Nat} (hk : 20 ≤ k) : insn_Check.f k i.f0 i.f1 i.f2 i.f3 i.f4 = some 0 := by
  obtain ⟨op, e, ho⟩ : ∃ op : Nat, i.f0 = (op : Int) ∧ op < 256 := by
    rcases h.op with e | e | e | e
    · exact ⟨22, e, by decide⟩
    · exact ⟨41, e, by decide⟩
    · exact ⟨1, e.1, by decide⟩
    · exact ⟨28, e.1, by decide⟩
  have hm := h.may
  rw [e, Int.toNat_natCast] at hm
  rw [e, check_tells ho _ _ _ _ h.lo h.hi hk, if_pos hm]
theorem name22 : insn_Name.f 22 = some (⟨#[97, 100, 100, 105]⟩, 0) := by decide +kernel
theorem name41 : insn_Name.f 41 = some (⟨#[97, 100, 100, 105, 119]⟩, 0) := by decide +kernel
theorem name1 : insn_Name.f 1 = some (⟨#[108, 117, 105]⟩, 0) := by decide +kernel
theorem name28 : insn_Name.f 28 = some (⟨#[115, 108, 108, 105]⟩, 0) := by decide +kernel
theorem done_j1 {rd x : Int} {i : S33} (h : LiF.One rd i) (fr : Int) (hfr : fr = if i.f2 = rd then x else 0) (k : Nat) : quoinlaw18_done.j1 (k + 1) fr false i.f0 i.f1 i.f2 i.f3 i.f4 = some (stp rd x i, true) := by
  simp only [quoinlaw18_done.j1]
  rw [if_neg (by decide)]
  unfold stp
  simp only [← hfr, IntKind.wrap_u64]
  rcases h.op with e | e | ⟨e, e2⟩ | ⟨e, e4⟩
  · rw [e, name22]; simp
  · rw [e, name41]; simp
  · rw [e, name1]; simp [e2]
  · rw [e, name28]; simp [e4]
theorem done_tells {rd x : Int} {i : S33} (h : LiF.One rd i) {k : Nat} (hk : 5 ≤ k) : quoinlaw18_done.f k i.f0 i.f1 i.f2 i.f3 i.f4 rd x = some (stp rd x i, true) := by
  obtain ⟨k, rfl⟩ : ∃ m, k = m + 2 := ⟨k - 2, by omega⟩
  have hb : (i.f3 != 0) = false := by rw [h.rs2]; rfl
  unfold quoinlaw18_done.f
  by_cases e : i.f2 = rd
  · rw [if_pos e, quoinlaw18_done.j0, if_pos h.isrd, hb]
    have key := done_j1 (x := x) h x (by rw [if_pos e]) k
    by_cases e0 : i.f2 = 0
    · rw [if_pos e0]; exact key
    · rw [if_neg e0, if_pos e]; exact key
  · have e0 : i.f2 = 0 := by rcases h.rs1 with a | a; exact absurd a e; exact a
    rw [if_neg e, quoinlaw18_done.j0, if_pos h.isrd, hb, if_pos e0]
    exact done_j1 h 0 (by rw [if_neg e]) k
theorem drop_nth (l : List S33) (i : Nat) (h : i < l.length) : l.drop i = rd_T33 l (i : Int) :: l.drop (i + 1) := by
  rw [List.drop_eq_getElem_cons h]
  unfold rd_T33
  rw [Int.toNat_natCast, List.getD_eq_getElem?_getD, List.getElem?_eq_getElem h]
  rfl
theorem has_l0 (rd n : Int) (l : List S33) (a : 1 ≤ l.length) (b : l.length ≤ 8) (ho : ∀ i ∈ l, LiF.One rd i) : ∀ m i k : Nat, i + m = l.length → 2 * m + 50 < k → ∀ x : Int, (rd ≠ 0 → run rd x (l.drop i) = n % 18446744073709551616) → quoinlaw18_LiHas.l0 k rd n l x (i : Int) = some true
  | 0, i, k, h, hk, x, hx => by
    obtain ⟨k, rfl⟩ : ∃ m, k = m + 1 := ⟨k - 1, by omega⟩
    simp only [quoinlaw18_LiHas.l0]
    rw [if_neg (by omega), if_pos (by omega), if_pos (by omega)]
    by_cases r : rd = 0
    · rw [if_pos r]
    · rw [if_neg r]
      have := hx r
      rw [List.drop_eq_nil_of_le (by omega)] at this
      simp only [run] at this
      rw [this, IntKind.wrap_u64]
      simp
  | m + 1, i, k, h, hk, x, hx => by
    obtain ⟨k, rfl⟩ : ∃ m, k = m + 2 := ⟨k - 2, by omega⟩
    have h1 := ho _ (nth_memh l i (by omega))
    simp only [quoinlaw18_LiHas.l0]
    rw [if_pos (by omega), if_pos (by omega), done_tells h1 (by omega), Option.bind_some]
    simp only []
    rw [if_pos trivial, check_oneh h1 (by omega), Option.bind_some]
    simp only [quoinlaw18_LiHas.j3]
    rw [if_neg (by decide), BitF.w64 (by omega) (by omega), show (i : Int) + 1 = ((i + 1 : Nat) : Int) from rfl]
    by_cases r : rd = 0
    · rw [if_pos r]
      exact has_l0 rd n l a b ho m (i + 1) k (by omega) (by omega) 0 (fun e => absurd r e)
    · rw [if_neg r]
      refine has_l0 rd n l a b ho m (i + 1) k (by omega) (by omega) _ fun _ => ?_
      have := hx r
      rw [drop_nth l i (by omega)] at this
      simp only [run, if_neg r] at this
      exact this
theorem LiHas : ∀ (a0 : Int) (a1 : Int) (a2 : Int), (Lit.int .i64 a0).wf = true → (Lit.int .i64 a1).wf = true → (Lit.int .u64 a2).wf = true → ∃ k, quoinlaw18_LiHas.f k a0 a1 a2 = some true := by
  intro rd n was w0 w1 w2
  obtain ⟨h0, h1⟩ := Wf.i64 w1
  refine ⟨1000, ?_⟩
  have bad : (quoinlaw18_LiHas.j0 1000 rd n was true [] true) = some true := by
    simp only [quoinlaw18_LiHas.j0]
    rfl
  unfold quoinlaw18_LiHas.f li_Steps.f
  rw [alive18h 1000 (by decide), Option.bind_some]
  by_cases r0 : rd < 0
  · rw [if_pos r0, Option.bind_some]
    simp only []
    rw [if_neg (by decide)]
    exact bad
  · rw [if_neg r0]
    by_cases r1 : rd > 31
    · rw [if_pos r1, Option.bind_some]
      simp only []
      rw [if_neg (by decide)]
      exact bad
    · obtain ⟨l, a, b⟩ := all4 rd n (by omega) (by omega) h0 h1
      have hl := b.le
      rw [if_neg r1, a 1000 (by decide)]
      simp only [Option.bind_some]
      rw [if_pos trivial]
      simp only [Bool.not_true, quoinlaw18_LiHas.j0, quoinlaw18_LiHas.j1]
      rw [if_neg (by decide)]
      have key : ∀ x : Int, quoinlaw18_LiHas.l0 998 rd n l x ((0 : Nat) : Int) = some true := fun x => has_l0 rd n l b.ge (by omega) b.one l.length 0 998 (by omega) (by omega) x (fun r => b.has r x)
      by_cases r : rd = 0
      · rw [if_pos r]; exact key 0
      · rw [if_neg r]; exact key was
end Go.Proofs.YtpijiohiohiilaaDoor.Pure
