/- li.op, and the closure that li.steps calls: it appends one instruction to the list in a box. -/
import Derived.Test.YtpijiohiohiilaaDoorD0
import Derived.Test.YtpijiohiohiilaaDoorGInsn
import Derived.Test.YtpijiohiohiilaaDoorDLi
import Derived.Test.YtpijiohiohiilaaDoorDBits
import Derived.Defers
import Derived.FnLit
namespace Go.Proofs.YtpijiohiohiilaaDoor.D
open Go.RowKit Go.Proofs.YtpijiohiohiilaaDoorW.PrintWords Go.Proofs.YtpijiohiohiilaaDoorW.PrintLast Go.Proofs.YtpijiohiohiilaaDoorW.PrintMore
attribute [local go_sem] max2_int min2_int max_two min_two max_three min_three max_four min_four
set_option linter.unusedVariables false
set_option linter.unusedSimpArgs false
set_option maxRecDepth 100000 in
theorem li_op.calls (name : ByteArray) (c e0 : Int) (k : Nat) (w : World) (hN : LaidN w) (h : insn_Of.f k name = some (c, e0)) :
    Calls Tryd.prog 80 #[.string name] w fun e w' => e = .returned (.int .u8 c) ∧ Drawn0 w w' := by
  have HLN := Aside0.mk hN
  have A1 := Aside0.mk h
  clear hN h
  go_enter Tryd.func80, Tryd.ntmps80
  go_wp2_with (first | ((with_reducible refine gate_callee (f := 22) rfl ?_); refine goesL_ (some 7) rfl rfl Tryd.func22 (by kernel_rfl) rfl #[.string name] rfl (by (try simp only [List.map_toArray, List.map_cons, List.map_nil]); first | done | rfl) ?_; (with_reducible refine (insn_Of.calls k name c e0 _ ?sideLN A1.out).mono ?_); (case sideLN => (repeat (first | exact HLN.out | (with_reducible refine LaidN.alloc ?_ _) | (with_reducible refine LaidN.drewN ?_ _) | (with_reducible refine LaidN.drew ?_)))); rintro e w' ⟨rfl, ⟨nd, rfl⟩⟩; refine ⟨_, rfl, ?_⟩))
  go_ret
  exact ⟨by first | rfl | (simp; done), by repeat (first | exact Drawn0.refl _ | apply Drawn0.step)⟩
set_option maxHeartbeats 3200000 in
set_option maxRecDepth 100000 in
/-- The closure: the list in the box gets one more instruction. -/
theorem li_add.calls (name : ByteArray) (c e0 : Int) (k : Nat) (hop : insn_Of.f k name = some (c, e0)) (fr imm rd : Int) (gl gr : Nat) (v : Value) (xs : List S33) (w0 w : World) (hN : LaidN w)
    (hl : w.heap[gl]? = some (.cells #[v] 46 (0, 0))) (hr : w.heap[gr]? = some (.cells #[.int .i64 rd] 3 (0, 0))) (hgl : w0.heap.size ≤ gl) (hne : gl ≠ gr)
    (ho : Kd.R k33 33 w w0.heap.size (fun k => k ≠ gl ∧ k ≠ gr) v xs) (hb : Below w0.heap.size w0 w) (hlen : xs.length < 1000) :
    Calls Tryd.prog 79 #[.string name, .int .i64 fr, .int .i64 imm, .pointer (some ⟨gl, 0, none⟩), .pointer (some ⟨gr, 0, none⟩)] w fun e w' => e = .returned (.tuple #[]) ∧
      ∃ v', w'.heap[gl]? = some (.cells #[v'] 46 (0, 0)) ∧ w'.heap[gr]? = some (.cells #[.int .i64 rd] 3 (0, 0)) ∧ Kd.R k33 33 w' w0.heap.size (fun k => k ≠ gl ∧ k ≠ gr) v' (xs ++ [(⟨c, rd, fr, 0, imm⟩ : S33)]) ∧ Below w0.heap.size w0 w' := by
  have HLN := Aside0.mk hN
  have A1 := Aside0.mk hop
  have FL := Aside0.mk hl
  have FR := Aside0.mk hr
  have HG := Aside0.mk hgl
  have HNE := Aside0.mk hne
  have HO := Aside0.mk ho
  have HB := Aside0.mk hb
  have HL := Aside0.mk hlen
  clear hN hop hl hr hgl hne ho hb hlen
  go_enter Tryd.func79, Tryd.ntmps79
  go_upto_region 0 with (fail)
  (try simp only [Act.put, List.setIfInBounds_toArray, List.set_cons_zero, List.set_cons_succ])
  refine start_ (n := 10) (S := fun w' => w'.cell? ⟨gl, 0, none⟩ = some v ∧ w'.cell? ⟨gr, 0, none⟩ = some (.int .i64 rd)) (ds := [9]) #[false, false, false, false, false, false, false, false, false, false] (by kernel_rfl) rfl rfl ⟨((blk_cell FL.out 0).trans rfl), ((blk_cell FR.out 0).trans rfl)⟩ (fun hHeld => ?_)
  refine pure_ (i := 1) (N := some 9) (v := ?_) (a' := ?_) #[false, true, false, false, false, false, false, false, false, false] rfl rfl (by kernel_rfl) (fun _ _ _ h => h) (Or.inl ⟨by rfl, ?_⟩) ?_ ?_
  rotate_left
  · intro w'
    go_simp
    with_reducible rfl
  rotate_left
  · simp only [Act.put, List.setIfInBounds_toArray, List.set_cons_zero, List.set_cons_succ, i64_w, i32_w]
    rfl
  refine pure_ (i := 4) (N := some 12) (v := ?_) (a' := ?_) #[false, true, false, false, true, false, false, false, false, false] rfl rfl (by kernel_rfl) (fun _ _ _ h => h) (Or.inl ⟨by rfl, ?_⟩) ?_ ?_
  rotate_left
  · intro w'
    go_simp
    with_reducible rfl
  rotate_left
  · simp only [Act.put, List.setIfInBounds_toArray, List.set_cons_zero, List.set_cons_succ, i64_w, i32_w]
    rfl
  refine pure_ (i := 5) (N := some 13) (v := ?_) (a' := ?_) #[false, true, false, false, true, true, false, false, false, false] rfl rfl (by kernel_rfl) (fun _ _ _ h => h) (Or.inl ⟨by rfl, ?_⟩) ?_ ?_
  rotate_left
  · intro w'
    go_simp
    with_reducible rfl
  rotate_left
  · simp only [Act.put, List.setIfInBounds_toArray, List.set_cons_zero, List.set_cons_succ, i64_w, i32_w]
    rfl
  refine take_ (i := 0) (N := some 8) (v := ?_) (a' := ?_) #[true, true, false, false, true, true, false, false, false, false] rfl rfl (by kernel_rfl) (fun _ _ _ h => h) (Or.inl ⟨by rfl, ?_⟩) hHeld ?_ ?_
  rotate_left
  · rintro w' ⟨s0, s1⟩
    go_simp
    with_reducible rfl
  rotate_left
  · simp only [Act.put, List.setIfInBounds_toArray, List.set_cons_zero, List.set_cons_succ, i64_w, i32_w]
    rfl
  refine take_ (i := 3) (N := some 11) (v := ?_) (a' := ?_) #[true, true, false, true, true, true, false, false, false, false] rfl rfl (by kernel_rfl) (fun _ _ _ h => h) (Or.inl ⟨by rfl, ?_⟩) hHeld ?_ ?_
  rotate_left
  · rintro w' ⟨s0, s1⟩
    go_simp
    with_reducible rfl
  rotate_left
  · simp only [Act.put, List.setIfInBounds_toArray, List.set_cons_zero, List.set_cons_succ, i64_w, i32_w]
    rfl
  refine one_ (i := 2) (N := some 10) #[true, true, true, true, true, true, false, false, false, false] rfl rfl (by kernel_rfl) (by decide) (fun K hK => ?_)
  refine goes_ Tryd.func80 (by kernel_rfl) rfl #[.string name] (by rfl) rfl rfl (by simp only [List.map_toArray, List.map_cons, List.map_nil]; rfl) ?_
  with_reducible refine (li_op.calls name c e0 k _ (by first | exact LaidN.drew HLN.out | exact HLN.out) A1.out).mono ?_
  rintro e w3 ⟨rfl, ⟨nd, rfl⟩⟩
  refine ⟨_, rfl, ?_⟩
  refine hK.out _ _ ⟨((blk_cell (blk_drewN (blk_drew FL.out) nd) 0).trans rfl), ((blk_cell (blk_drewN (blk_drew FR.out) nd) 0).trans rfl)⟩ (fun hHeld => ?_)
  clear hK K
  refine norm_ (a' := ?_) ?_ ?_
  rotate_left
  · show Act.put _ (some 10) _ = _
    simp only [Act.put, List.setIfInBounds_toArray, List.set_cons_zero, List.set_cons_succ, i64_w, i32_w]
    rfl
  refine pure_ (i := 6) (N := some 14) (v := ?_) (a' := ?_) #[true, true, true, true, true, true, true, false, false, false] rfl rfl (by kernel_rfl) (fun _ _ _ h => h) (Or.inl ⟨by rfl, ?_⟩) ?_ ?_
  rotate_left
  · intro w'
    go_simp
    with_reducible rfl
  rotate_left
  · simp only [Act.put, List.setIfInBounds_toArray, List.set_cons_zero, List.set_cons_succ, i64_w, i32_w]
    rfl
  refine one_ (i := 7) (N := some 15) #[true, true, true, true, true, true, true, true, false, false] rfl rfl (by kernel_rfl) (by decide) (fun K hK => ?_)
  refine value_ (w1 := ?_) (v := ?_) (by rfl) rfl ?_ ?_
  rotate_left 2
  · go_simp
    constructor
    · rfl
    · rfl
  refine hK.out _ _ ⟨((blk_cell (blk_alloc (blk_drewN (blk_drew FL.out) nd) _) 0).trans rfl), ((blk_cell (blk_alloc (blk_drewN (blk_drew FR.out) nd) _) 0).trans rfl)⟩ (fun hHeld => ?_)
  clear hK K
  refine norm_ (a' := ?_) ?_ ?_
  rotate_left
  · show Act.put _ (some 15) _ = _
    simp only [Act.put, List.setIfInBounds_toArray, List.set_cons_zero, List.set_cons_succ, i64_w, i32_w]
    rfl
  refine one_ (i := 8) (N := some 16) #[true, true, true, true, true, true, true, true, true, false] rfl rfl (by kernel_rfl) (by decide) (fun K hK => ?_)
  refine Kd.R_append_step k33 (w0 := w0) w0.heap.size (by rfl) (.tmp 8) (.tmp 15) 46 33 (.agg #[(.int .u8 0), (.int .i64 0), (.int .i64 0), (.int .i64 0), (.int .i64 0)]) 40 rfl Tryd.underlying46 info33 rfl (by decide) (by omega) v xs (⟨c, rd, fr, 0, imm⟩ : S33) [.int .u8 c, .int .i64 rd, .int .i64 fr, .int .i64 0, .int .i64 imm] (fun k => k ≠ gl ∧ k ≠ gr) (fun _ => False) rfl rfl ?aP (fun _ hk => hk.elim) ?aF ?aO ?aB ?aS ?aL ?_
  case aP => exact k33_mkM _ _ _ (⟨c, rd, fr, 0, imm⟩ : S33)
  case aB => exact pw_below_drewN HB.out _
  case aF => exact fun k hk => ⟨by have := blk_lt FL.out; have hk : w.heap.size ≤ k := hk; omega, by have := blk_lt FR.out; have hk : w.heap.size ≤ k := hk; omega⟩
  case aO => exact Kd.R_drewN HO.out _
  case aS => exact HB.out.size
  case aL => have := HL.out; omega
  intro v1 w1 ho hb hg hat
  have FL1 := Aside0.mk (blk_grown (blk_drewN FL.out _) hg (Kd.R_away HO.out (fun k hk => hk.1)))
  have FR1 := Aside0.mk (blk_grown (blk_drewN FR.out _) hg (Kd.R_away HO.out (fun k hk => hk.2)))
  have HO1 := Aside0.mk ho
  have HB1 := Aside0.mk hb
  clear ho hb hg hat
  obtain ⟨Av, cv, ev⟩ := Kd.R_slice HO1.out
  rw [List.length_append, List.length_singleton] at ev
  subst ev
  refine hK.out _ _ ⟨((blk_cell FL1.out 0).trans rfl), ((blk_cell FR1.out 0).trans rfl)⟩ (fun hHeld => ?_)
  clear hK K
  refine norm_ (a' := ?_) ?_ ?_
  rotate_left
  · show Act.put _ (some 16) _ = _
    simp only [Act.put, List.setIfInBounds_toArray, List.set_cons_zero, List.set_cons_succ, i64_w, i32_w]
    rfl
  refine last_ (i := 9) (N := none) #[true, true, true, true, true, true, true, true, true, true] rfl rfl (by kernel_rfl) (by decide) (fun K hK => ?_)
  have z0 : w1.frozen? ⟨gl, 0, none⟩ = false := blk_frozen FL1.out 0
  have q0 : w1.cell? ⟨gl, 0, none⟩ = some v := (blk_cell FL1.out 0).trans rfl
  refine skip_ (w1 := ?_) (by rfl) rfl ?_ ?_
  rotate_left
  · go_simp
    rfl
  refine hK.out _ _ ?_
  clear hK K
  refine done_ (by kernel_rfl) ?_
  go_end0
  refine ⟨rfl, _, blk_put FL1.out 0 _ rfl, blk_far FR1.out (fun e => HNE.out e.symm) _, Kd.R_far HO1.out (fun k hk => hk.1) _, HB1.out.setCell HG.out _⟩
end Go.Proofs.YtpijiohiohiilaaDoor.D
