/- Walks and rows of the laws of quoin: each Lean function here tells just what the Go function of its name answers. Conditions: none but those that a row itself names. Written by a program of this session (wip/reprint.py) over the kit print, and turned by it. -/
import Derived.Test.YtpijiohiohiilaaDoorD0
import Derived.Test.YtpijiohiohiilaaDoorDInsn
import Derived.Test.YtpijiohiohiilaaDoorDQuoinlaw18
import Derived.Test.YtpijiohiohiilaaDoorGLi
namespace Go.Proofs.YtpijiohiohiilaaDoor.D
open Go.RowKit Go.Proofs.YtpijiohiohiilaaDoorW.PrintWords Go.Proofs.YtpijiohiohiilaaDoorW.PrintLast Go.Proofs.YtpijiohiohiilaaDoorW.PrintMore
attribute [local go_sem] max2_int min2_int max_two min_two max_three min_three max_four min_four   -- for this text's walks alone
set_option linter.unusedVariables false
set_option linter.unusedSimpArgs false

/-! ### quoinlaw18_LiHas: function 14 -/
mutual
def quoinlaw18_LiHas.j0 : Nat → Int → Int → Int → Bool → List (S33) → Bool → Option (Bool)
  | 0, _, _, _, _, _, _ => none
  | k + 1, x0, x1, x2, x7, x8, x26 => if x26 = true then (if x7 = true then (some ((x8.length : Int) == 0)) else (none)) else (if x0 = 0 then (quoinlaw18_LiHas.j1 k x0 x1 x8 0) else (quoinlaw18_LiHas.j1 k x0 x1 x8 x2))
def quoinlaw18_LiHas.j1 : Nat → Int → Int → List (S33) → Int → Option (Bool)
  | 0, _, _, _, _ => none
  | k + 1, x0, x1, x8, x10 => quoinlaw18_LiHas.l0 k x0 x1 x8 x10 0
def quoinlaw18_LiHas.l0 : Nat → Int → Int → List (S33) → Int → Int → Option (Bool)
  | 0, _, _, _, _, _ => none
  | k + 1, x0, x1, x8, x10, x11 => if x11 < (x8.length : Int) then (if 0 ≤ x11 then ((quoinlaw18_done.f k ((rd_T33 x8 x11).f0) ((rd_T33 x8 x11).f1) ((rd_T33 x8 x11).f2) ((rd_T33 x8 x11).f3) ((rd_T33 x8 x11).f4) x0 x10).bind fun bt540 => (if bt540.2 = true then ((insn_Check.f k ((rd_T33 x8 x11).f0) ((rd_T33 x8 x11).f1) ((rd_T33 x8 x11).f2) ((rd_T33 x8 x11).f3) ((rd_T33 x8 x11).f4)).bind fun t543 => (quoinlaw18_LiHas.j3 k x0 x1 x8 x11 bt540.1 (t543 != 0))) else (quoinlaw18_LiHas.j3 k x0 x1 x8 x11 bt540.1 true))) else (none)) else (if (x8.length : Int) ≥ 1 then (if (x8.length : Int) ≤ 8 then (if x0 = 0 then (some true) else (some (x10 == (IntKind.u64.wrap (x1))))) else (none)) else (none))
def quoinlaw18_LiHas.j3 : Nat → Int → Int → List (S33) → Int → Int → Bool → Option (Bool)
  | 0, _, _, _, _, _, _ => none
  | k + 1, x0, x1, x8, x11, x12, x61 => if x61 = true then (none) else (if x0 = 0 then (quoinlaw18_LiHas.l0 k x0 x1 x8 0 (wrap64 (x11 + 1))) else (quoinlaw18_LiHas.l0 k x0 x1 x8 x12 (wrap64 (x11 + 1))))
end
def quoinlaw18_LiHas.f (k : Nat) (a0 : Int) (a1 : Int) (a2 : Int) : Option (Bool) := (quoinlaw18_alive.f k).bind fun t534 => ((li_Steps.f k a0 a1).bind fun bt535 => (if bt535.2 = 0 then (quoinlaw18_LiHas.j0 k a0 a1 a2 t534 bt535.1 (!t534)) else (quoinlaw18_LiHas.j0 k a0 a1 a2 t534 bt535.1 true)))
theorem quoinlaw18_LiHas.mono_l : ∀ k, (∀ y0 y1 y2 y3 y4 y5, LeO (quoinlaw18_LiHas.j0 k y0 y1 y2 y3 y4 y5) (quoinlaw18_LiHas.j0 (k + 1) y0 y1 y2 y3 y4 y5)) ∧ (∀ y0 y1 y2 y3, LeO (quoinlaw18_LiHas.j1 k y0 y1 y2 y3) (quoinlaw18_LiHas.j1 (k + 1) y0 y1 y2 y3)) ∧ (∀ y0 y1 y2 y3 y4, LeO (quoinlaw18_LiHas.l0 k y0 y1 y2 y3 y4) (quoinlaw18_LiHas.l0 (k + 1) y0 y1 y2 y3 y4)) ∧ (∀ y0 y1 y2 y3 y4 y5, LeO (quoinlaw18_LiHas.j3 k y0 y1 y2 y3 y4 y5) (quoinlaw18_LiHas.j3 (k + 1) y0 y1 y2 y3 y4 y5))
  | 0 => ⟨fun _ _ _ _ _ _ r h => by simp [quoinlaw18_LiHas.j0] at h, fun _ _ _ _ r h => by simp [quoinlaw18_LiHas.j1] at h, fun _ _ _ _ _ r h => by simp [quoinlaw18_LiHas.l0] at h, fun _ _ _ _ _ _ r h => by simp [quoinlaw18_LiHas.j3] at h⟩
  | k + 1 => by
    obtain ⟨ih0, ih1, ih2, ih3⟩ := quoinlaw18_LiHas.mono_l k
    refine ⟨?_, ?_, ?_, ?_⟩
    · intro y0 y1 y2 y3 y4 y5
      unfold quoinlaw18_LiHas.j0
      repeat' first
      | (with_reducible exact ih0 _ _ _ _ _ _)
      | (with_reducible exact ih1 _ _ _ _)
      | (with_reducible exact ih2 _ _ _ _ _)
      | (with_reducible exact ih3 _ _ _ _ _ _)
      | (with_reducible exact insn_Check.mono _ _ _ _ _ _)
      | (with_reducible exact li_Steps.mono _ _ _)
      | (with_reducible exact quoinlaw18_alive.mono _)
      | (with_reducible exact quoinlaw18_done.mono _ _ _ _ _ _ _ _)
      | (with_reducible exact LeO.refl _)
      | (with_reducible exact LeO.none _)
      | (with_reducible refine LeO.ite ?_ ?_)
      | (with_reducible refine LeO.bind ?_ (fun _ => ?_))
      | exact ih0 _ _ _ _ _ _
      | exact ih1 _ _ _ _
      | exact ih2 _ _ _ _ _
      | exact ih3 _ _ _ _ _ _
      | exact insn_Check.mono _ _ _ _ _ _
      | exact li_Steps.mono _ _ _
      | exact quoinlaw18_alive.mono _
      | exact quoinlaw18_done.mono _ _ _ _ _ _ _ _
      | exact LeO.none _
      | refine LeO.ite ?_ ?_
      | refine LeO.bind ?_ (fun _ => ?_)
    · intro y0 y1 y2 y3
      unfold quoinlaw18_LiHas.j1
      repeat' first
      | (with_reducible exact ih0 _ _ _ _ _ _)
      | (with_reducible exact ih1 _ _ _ _)
      | (with_reducible exact ih2 _ _ _ _ _)
      | (with_reducible exact ih3 _ _ _ _ _ _)
      | (with_reducible exact insn_Check.mono _ _ _ _ _ _)
      | (with_reducible exact li_Steps.mono _ _ _)
      | (with_reducible exact quoinlaw18_alive.mono _)
      | (with_reducible exact quoinlaw18_done.mono _ _ _ _ _ _ _ _)
      | (with_reducible exact LeO.refl _)
      | (with_reducible exact LeO.none _)
      | (with_reducible refine LeO.ite ?_ ?_)
      | (with_reducible refine LeO.bind ?_ (fun _ => ?_))
      | exact ih0 _ _ _ _ _ _
      | exact ih1 _ _ _ _
      | exact ih2 _ _ _ _ _
      | exact ih3 _ _ _ _ _ _
      | exact insn_Check.mono _ _ _ _ _ _
      | exact li_Steps.mono _ _ _
      | exact quoinlaw18_alive.mono _
      | exact quoinlaw18_done.mono _ _ _ _ _ _ _ _
      | exact LeO.none _
      | refine LeO.ite ?_ ?_
      | refine LeO.bind ?_ (fun _ => ?_)
    · intro y0 y1 y2 y3 y4
      unfold quoinlaw18_LiHas.l0
      repeat' first
      | (with_reducible exact ih0 _ _ _ _ _ _)
      | (with_reducible exact ih1 _ _ _ _)
      | (with_reducible exact ih2 _ _ _ _ _)
      | (with_reducible exact ih3 _ _ _ _ _ _)
      | (with_reducible exact insn_Check.mono _ _ _ _ _ _)
      | (with_reducible exact li_Steps.mono _ _ _)
      | (with_reducible exact quoinlaw18_alive.mono _)
      | (with_reducible exact quoinlaw18_done.mono _ _ _ _ _ _ _ _)
      | (with_reducible exact LeO.refl _)
      | (with_reducible exact LeO.none _)
      | (with_reducible refine LeO.ite ?_ ?_)
      | (with_reducible refine LeO.bind ?_ (fun _ => ?_))
      | exact ih0 _ _ _ _ _ _
      | exact ih1 _ _ _ _
      | exact ih2 _ _ _ _ _
      | exact ih3 _ _ _ _ _ _
      | exact insn_Check.mono _ _ _ _ _ _
      | exact li_Steps.mono _ _ _
      | exact quoinlaw18_alive.mono _
      | exact quoinlaw18_done.mono _ _ _ _ _ _ _ _
      | exact LeO.none _
      | refine LeO.ite ?_ ?_
      | refine LeO.bind ?_ (fun _ => ?_)
    · intro y0 y1 y2 y3 y4 y5
      unfold quoinlaw18_LiHas.j3
      repeat' first
      | (with_reducible exact ih0 _ _ _ _ _ _)
      | (with_reducible exact ih1 _ _ _ _)
      | (with_reducible exact ih2 _ _ _ _ _)
      | (with_reducible exact ih3 _ _ _ _ _ _)
      | (with_reducible exact insn_Check.mono _ _ _ _ _ _)
      | (with_reducible exact li_Steps.mono _ _ _)
      | (with_reducible exact quoinlaw18_alive.mono _)
      | (with_reducible exact quoinlaw18_done.mono _ _ _ _ _ _ _ _)
      | (with_reducible exact LeO.refl _)
      | (with_reducible exact LeO.none _)
      | (with_reducible refine LeO.ite ?_ ?_)
      | (with_reducible refine LeO.bind ?_ (fun _ => ?_))
      | exact ih0 _ _ _ _ _ _
      | exact ih1 _ _ _ _
      | exact ih2 _ _ _ _ _
      | exact ih3 _ _ _ _ _ _
      | exact insn_Check.mono _ _ _ _ _ _
      | exact li_Steps.mono _ _ _
      | exact quoinlaw18_alive.mono _
      | exact quoinlaw18_done.mono _ _ _ _ _ _ _ _
      | exact LeO.none _
      | refine LeO.ite ?_ ?_
      | refine LeO.bind ?_ (fun _ => ?_)
theorem quoinlaw18_LiHas.mono : ∀ a0 a1 a2 k, LeO (quoinlaw18_LiHas.f k a0 a1 a2) (quoinlaw18_LiHas.f (k + 1) a0 a1 a2) := by
  intro a0 a1 a2 k
  obtain ⟨ih0, ih1, ih2, ih3⟩ := quoinlaw18_LiHas.mono_l k
  unfold quoinlaw18_LiHas.f
  repeat' first
      | (with_reducible exact ih0 _ _ _ _ _ _)
      | (with_reducible exact ih1 _ _ _ _)
      | (with_reducible exact ih2 _ _ _ _ _)
      | (with_reducible exact ih3 _ _ _ _ _ _)
      | (with_reducible exact insn_Check.mono _ _ _ _ _ _)
      | (with_reducible exact li_Steps.mono _ _ _)
      | (with_reducible exact quoinlaw18_alive.mono _)
      | (with_reducible exact quoinlaw18_done.mono _ _ _ _ _ _ _ _)
      | (with_reducible exact LeO.refl _)
      | (with_reducible exact LeO.none _)
      | (with_reducible refine LeO.ite ?_ ?_)
      | (with_reducible refine LeO.bind ?_ (fun _ => ?_))
      | exact ih0 _ _ _ _ _ _
      | exact ih1 _ _ _ _
      | exact ih2 _ _ _ _ _
      | exact ih3 _ _ _ _ _ _
      | exact insn_Check.mono _ _ _ _ _ _
      | exact li_Steps.mono _ _ _
      | exact quoinlaw18_alive.mono _
      | exact quoinlaw18_done.mono _ _ _ _ _ _ _ _
      | exact LeO.none _
      | refine LeO.ite ?_ ?_
      | refine LeO.bind ?_ (fun _ => ?_)
set_option maxHeartbeats 8000000 in
set_option maxRecDepth 100000 in
theorem quoinlaw18_LiHas.calls (k : Nat) (a0 : Int) (a1 : Int) (a2 : Int) (r : Bool) (w : World) (hN : LaidN w) (h : quoinlaw18_LiHas.f k a0 a1 a2 = some r) :
    Calls Tryd.prog 14 #[.int .i64 a0, .int .i64 a1, .int .u64 a2] w fun e w' => e = .returned (.bool r) ∧ Below w.heap.size w w' := by
  have HLN := Aside0.mk hN
  clear hN
  have hu33 := Tryd.underlying33
  have HB := Aside0.mk (Below.refl w.heap.size w)
  have H : ((quoinlaw18_alive.f k).bind fun t534 => ((li_Steps.f k a0 a1).bind fun bt535 => (if bt535.2 = 0 then (quoinlaw18_LiHas.j0 k a0 a1 a2 t534 bt535.1 (!t534)) else (quoinlaw18_LiHas.j0 k a0 a1 a2 t534 bt535.1 true)))) = some r := h
  clear h
  replace H := Option.bind_eq_some_iff.mp H
  obtain ⟨t534, A40, H⟩ := H
  replace H : ((li_Steps.f k a0 a1).bind fun bt535 => (if bt535.2 = 0 then (quoinlaw18_LiHas.j0 k a0 a1 a2 t534 bt535.1 (!t534)) else (quoinlaw18_LiHas.j0 k a0 a1 a2 t534 bt535.1 true))) = some r := H
  have A4 := Aside0.mk A40
  clear A40
  replace H := Option.bind_eq_some_iff.mp H
  obtain ⟨⟨t535, t536⟩, A50, H⟩ := H
  replace H : (if t536 = 0 then (quoinlaw18_LiHas.j0 k a0 a1 a2 t534 t535 (!t534)) else (quoinlaw18_LiHas.j0 k a0 a1 a2 t534 t535 true)) = some r := H
  have A5 := Aside0.mk A50
  clear A50
  have HC6 := Aside0.mk H
  clear H
  go_enter Tryd.func14, Tryd.ntmps14
  go_upto_region 3 with (first | ((with_reducible refine gate_callee (f := 34) rfl ?_); refine goesL_ (some 14) rfl rfl Tryd.func34 (by kernel_rfl) rfl #[] rfl (by (try simp only [List.map_toArray, List.map_cons, List.map_nil]); first | done | rfl | (simp only [List.length_drop, List.length_take]; rfl)) ?_; (with_reducible refine (quoinlaw18_alive.calls k  t534 _ ?sideLN A4.out).mono ?_); (case sideLN => (repeat (first | exact HLN.out | (with_reducible refine LaidN.alloc ?_ _) | (with_reducible refine LaidN.drewN ?_ _) | (with_reducible refine LaidN.drew ?_) | (refine LaidN.below HLN.out ?_; repeat (first | (with_reducible first | exact HB.out | apply below_alloc | apply pw_below_drewN | apply below_drew1) | exact HB.out))))); rintro e w7 ⟨rfl, hb⟩; refine ⟨_, rfl, ?_⟩; have n0_ := Aside0.mk (below_step (by repeat (first | (with_reducible first | exact HB.out | apply below_alloc | apply pw_below_drewN | apply below_drew1) | exact HB.out)) hb); clear HB; have HB := n0_; clear n0_; (try clear hb); (try clear hb2); (try clear hk); (try clear hi)) | ((with_reducible refine gate_callee (f := 33) rfl ?_); refine goesL_ (some 18) rfl rfl Tryd.func33 (by kernel_rfl) rfl #[.int .i64 a0, .int .i64 a1] rfl (by (try simp only [List.map_toArray, List.map_cons, List.map_nil]); first | done | rfl | (simp only [List.length_drop, List.length_take]; rfl)) ?_; (with_reducible refine (li_Steps.calls k a0 a1 t535 t536 _ ?sideLN A5.out).mono ?_); (case sideLN => (repeat (first | exact HLN.out | (with_reducible refine LaidN.alloc ?_ _) | (with_reducible refine LaidN.drewN ?_ _) | (with_reducible refine LaidN.drew ?_) | (refine LaidN.below HLN.out ?_; repeat (first | (with_reducible first | exact HB.out | apply below_alloc | apply pw_below_drewN | apply below_drew1) | exact HB.out))))); rintro e w8 ⟨v537, rfl, ho0, hb⟩; refine ⟨_, rfl, ?_⟩; have n0_ := Aside0.mk (Kd.R_lower ho0 (below_size (by repeat (first | (with_reducible first | exact HB.out | apply below_alloc | apply pw_below_drewN | apply below_drew1) | exact HB.out)))); have n1_ := Aside0.mk (below_step (by repeat (first | (with_reducible first | exact HB.out | apply below_alloc | apply pw_below_drewN | apply below_drew1) | exact HB.out)) hb); clear HB; have HO538 := n0_; have HB := n1_; clear n0_ n1_; (try clear hb); (try clear hb2); (try clear hk); (try clear hi); (try clear ho0)))
  (try simp only [Act.put, List.setIfInBounds_toArray, List.set_cons_zero, List.set_cons_succ])
  go_cut [26] (fun v26 wc => ∃ (kq : Nat) (x26_5 : Bool), v26 = .bool x26_5 ∧ Aside0 (quoinlaw18_LiHas.j0 kq a0 a1 a2 t534 t535 x26_5 = some r) ∧ Aside0 (kq ≤ k) ∧ Aside0 (Kd.R k33 33 wc w.heap.size (fun _ => True) v537 t535) ∧ Aside0 (Below w.heap.size w wc))
  case first =>
    have H := HC6.out
    clear HC6
    by_cases c9 : t536 = 0
    · rw [if_pos c9] at H
      have c9b0 : (t536 == 0) = true := beq_iff_eq.mpr c9
      have c9b1 : (t536 != 0) = false := bne_eq_false_iff_eq.mpr c9
      clear c9
      (first | rw [c9b0] | (simp only [i64_w, i32_w]; rw [c9b0]) | rw [c9b1] | skip)
      have H' := Aside0.mk H
      clear H
      go_wp2
      go_meet
      case rel => exact ⟨_, (!t534), (by first | rfl | (simp; done) | (simp only [i64_w, i32_w]; first | done | rfl | (simp; done)) | (simp [*]; done)), H', ⟨by first | omega | exact Nat.le_refl _⟩, ⟨by (with_reducible repeat (first | apply Kd.R_alloc | apply Kd.R_drewN | apply Kd.R_drew)); exact HO538.out⟩, ⟨by repeat (first | (with_reducible first | exact HB.out | apply below_alloc | apply pw_below_drewN | apply below_drew1) | exact HB.out)⟩⟩
    · rw [if_neg c9] at H
      have c9b0 : (t536 == 0) = false := beq_eq_false_iff_ne.mpr c9
      have c9b1 : (t536 != 0) = true := bne_iff_ne.mpr c9
      (first | rw [c9b0] | (simp only [i64_w, i32_w]; rw [c9b0]) | rw [c9b1] | skip)
      have H' := Aside0.mk H
      clear H
      go_wp2
      go_meet
      case rel => exact ⟨_, (true), (by first | rfl | (simp; done) | (simp only [i64_w, i32_w]; first | done | rfl | (simp; done)) | (simp [*]; done)), H', ⟨by first | omega | exact Nat.le_refl _⟩, ⟨by (with_reducible repeat (first | apply Kd.R_alloc | apply Kd.R_drewN | apply Kd.R_drew)); exact HO538.out⟩, ⟨by repeat (first | (with_reducible first | exact HB.out | apply below_alloc | apply pw_below_drewN | apply below_drew1) | exact HB.out)⟩⟩
  case rest =>
    clear HC6
    try clear c1
    try clear p2
    try clear c3
    try clear c9
    try clear c9b0
    try clear c9b1
    obtain ⟨kq, x26_5, rfl, HA, HJ5, HO_8, HB⟩ := hcut
    cases kq with
    | zero => exact absurd HA.out (by simp [quoinlaw18_LiHas.j0])
    | succ kj5 =>
      have H := HA.out
      clear HA
      simp only [quoinlaw18_LiHas.j0] at H
      by_cases c10 : x26_5 = true
      · subst c10
        have H1 : (if t534 = true then (some ((t535.length : Int) == 0)) else (none)) = some r := by rw [if_pos rfl] at H; exact H
        clear H
        have H := H1
        clear H1
        by_cases c11 : t534 = true
        · subst c11
          have H1 : (some ((t535.length : Int) == 0)) = some r := by rw [if_pos rfl] at H; exact H
          clear H
          have H := H1
          clear H1
          obtain rfl := Option.some.inj H
          obtain ⟨Ao12, co12, eo12⟩ := Kd.R_slice HO_8.out
          subst eo12
          go_wp2
          go_ret
          exact ⟨by first | rfl | (simp [errW_none, errW_some] <;> rfl) | (simp [*, errW_none, errW_some] <;> rfl), by repeat (first | (with_reducible first | exact HB.out | apply below_alloc | apply pw_below_drewN | apply below_drew1) | exact HB.out)⟩
        · replace c11 := Bool.eq_false_iff.mpr c11
          subst c11
          have H1 : (none) = some r := by rw [if_neg (show ¬ (false = true) by decide)] at H; exact H
          clear H
          have H := H1
          clear H1
          exact absurd H (by simp)
      · replace c10 := Bool.eq_false_iff.mpr c10
        subst c10
        have H1 : (if a0 = 0 then (quoinlaw18_LiHas.j1 kj5 a0 a1 t535 0) else (quoinlaw18_LiHas.j1 kj5 a0 a1 t535 a2)) = some r := by rw [if_neg (show ¬ (false = true) by decide)] at H; exact H
        clear H
        have H := H1
        clear H1
        have HC13 := Aside0.mk H
        clear H
        go_upto_if 35 with (fail)
        go_cut [10] (fun v10 wc => ∃ (kq : Nat) (x10_12 : Int), v10 = .int .u64 x10_12 ∧ Aside0 (quoinlaw18_LiHas.j1 kq a0 a1 t535 x10_12 = some r) ∧ Aside0 (kq ≤ kj5) ∧ Aside0 (Kd.R k33 33 wc w.heap.size (fun _ => True) v537 t535) ∧ Aside0 (Below w.heap.size w wc))
        case first =>
          have H := HC13.out
          clear HC13
          by_cases c14 : a0 = 0
          · rw [if_pos c14] at H
            have c14b0 : (a0 == 0) = true := beq_iff_eq.mpr c14
            have c14b1 : (a0 != 0) = false := bne_eq_false_iff_eq.mpr c14
            clear c14
            (first | rw [c14b0] | (simp only [i64_w, i32_w]; rw [c14b0]) | rw [c14b1] | skip)
            have H' := Aside0.mk H
            clear H
            go_wp2
            go_meet
            case rel => exact ⟨_, (0), (by first | rfl | (simp; done) | (simp only [i64_w, i32_w]; first | done | rfl | (simp; done)) | (simp [*]; done)), H', ⟨by have := HJ5.out; first | omega | exact Nat.le_refl _⟩, ⟨by (with_reducible repeat (first | apply Kd.R_alloc | apply Kd.R_drewN | apply Kd.R_drew)); exact HO_8.out⟩, ⟨by repeat (first | (with_reducible first | exact HB.out | apply below_alloc | apply pw_below_drewN | apply below_drew1) | exact HB.out)⟩⟩
          · rw [if_neg c14] at H
            have c14b0 : (a0 == 0) = false := beq_eq_false_iff_ne.mpr c14
            have c14b1 : (a0 != 0) = true := bne_iff_ne.mpr c14
            (first | rw [c14b0] | (simp only [i64_w, i32_w]; rw [c14b0]) | rw [c14b1] | skip)
            have H' := Aside0.mk H
            clear H
            go_wp2
            go_meet
            case rel => exact ⟨_, (a2), (by first | rfl | (simp; done) | (simp only [i64_w, i32_w]; first | done | rfl | (simp; done)) | (simp [*]; done)), H', ⟨by have := HJ5.out; first | omega | exact Nat.le_refl _⟩, ⟨by (with_reducible repeat (first | apply Kd.R_alloc | apply Kd.R_drewN | apply Kd.R_drew)); exact HO_8.out⟩, ⟨by repeat (first | (with_reducible first | exact HB.out | apply below_alloc | apply pw_below_drewN | apply below_drew1) | exact HB.out)⟩⟩
        case rest =>
          clear HC13
          try clear c1
          try clear p2
          try clear c3
          try clear c9
          try clear c9b0
          try clear c9b1
          try clear c10
          try clear c11
          try clear c14
          try clear c14b0
          try clear c14b1
          try clear p2
          obtain ⟨kq, x10_12, rfl, HA, HJ12, HO_8, HB⟩ := hcut
          cases kq with
          | zero => exact absurd HA.out (by simp [quoinlaw18_LiHas.j1])
          | succ kj12 =>
            have H := HA.out
            clear HA
            simp only [quoinlaw18_LiHas.j1] at H
            have H' := Aside0.mk H
            clear H
            go_wp2
            go_loopg [10, 11] kj12 (fun kq v10 v11 w' => ∃ (x10_3 : Int) (x11_3 : Int), v10 = .int .u64 x10_3 ∧ v11 = .int .i64 x11_3 ∧ Aside0 (quoinlaw18_LiHas.l0 kq a0 a1 t535 x10_3 x11_3 = some r) ∧ Aside0 (kq ≤ kj12) ∧ Aside0 (Kd.R k33 33 w' w.heap.size (fun _ => True) v537 t535) ∧ Aside0 (Below w.heap.size w w'))
            case atStart => exact ⟨(x10_12), (0), (by first | rfl | (simp; done) | (simp only [i64_w, i32_w]; first | done | rfl | (simp; done)) | (simp [*]; done)), (by first | rfl | (simp; done) | (simp only [i64_w, i32_w]; first | done | rfl | (simp; done)) | (simp [*]; done)), H', ⟨Nat.le_refl _⟩, ⟨by (with_reducible repeat (first | apply Kd.R_alloc | apply Kd.R_drewN | apply Kd.R_drew)); exact HO_8.out⟩, ⟨by repeat (first | (with_reducible first | exact HB.out | apply below_alloc | apply pw_below_drewN | apply below_drew1) | exact HB.out)⟩⟩
            case round =>
              clear H'
              try clear c1
              try clear p2
              try clear c3
              try clear c9
              try clear c9b0
              try clear c9b1
              try clear c10
              try clear c11
              try clear c14
              try clear c14b0
              try clear c14b1
              try clear p2
              obtain ⟨x10_3, x11_3, rfl, rfl, HA, HK3, HO_8, HB⟩ := hrel
              cases gk with
              | zero => exact absurd HA.out (by simp [quoinlaw18_LiHas.l0])
              | succ k3 =>
                have H := HA.out
                clear HA
                simp only [quoinlaw18_LiHas.l0] at H
                by_cases c15 : x11_3 < (t535.length : Int)
                · rw [if_pos c15] at H
                  have c15b0 : decide (x11_3 < (t535.length : Int)) = true := decide_eq_true c15
                  clear c15
                  by_cases c16 : 0 ≤ x11_3
                  · rw [if_pos c16] at H
                    have c16b0 : decide (0 ≤ x11_3) = true := decide_eq_true c16
                    clear c16
                    replace H := Option.bind_eq_some_iff.mp H
                    obtain ⟨⟨t540, t541⟩, A170, H⟩ := H
                    replace H : (if t541 = true then ((insn_Check.f k3 ((rd_T33 t535 x11_3).f0) ((rd_T33 t535 x11_3).f1) ((rd_T33 t535 x11_3).f2) ((rd_T33 t535 x11_3).f3) ((rd_T33 t535 x11_3).f4)).bind fun t543 => (quoinlaw18_LiHas.j3 k3 a0 a1 t535 x11_3 t540 (t543 != 0))) else (quoinlaw18_LiHas.j3 k3 a0 a1 t535 x11_3 t540 true)) = some r := H
                    have A17 := Aside0.mk A170
                    clear A170
                    have HC18 := Aside0.mk H
                    clear H
                    obtain ⟨Ao19, co19, eo19⟩ := Kd.R_slice HO_8.out
                    subst eo19
                    have p539 : 0 ≤ (x11_3 : Int) := of_decide_eq_true (by first | (with_reducible assumption) | assumption)
                    have q539 : x11_3 < (t535.length : Int) := of_decide_eq_true (by first | (with_reducible assumption) | assumption)
                    obtain ⟨ad539, e539, hx539_0, hx539_1, hx539_2, hx539_3, hx539_4⟩ := at_T33 (Kd.R_reads' HO_8.out).2.2 x11_3 p539 q539
                    cases e539
                    replace p539 := eq_true p539
                    replace q539 := eq_true q539
                    go_upto_region 12 with (first | ((with_reducible refine gate_callee (f := 42) rfl ?_); refine goesL_ (some 49) rfl rfl Tryd.func42 (by kernel_rfl) rfl #[.agg #[.int .u8 ((rd_T33 t535 x11_3).f0), .int .i64 ((rd_T33 t535 x11_3).f1), .int .i64 ((rd_T33 t535 x11_3).f2), .int .i64 ((rd_T33 t535 x11_3).f3), .int .i64 ((rd_T33 t535 x11_3).f4)], .int .i64 a0, .int .u64 x10_3] rfl (by (try simp only [List.map_toArray, List.map_cons, List.map_nil]); first | done | rfl | (simp only [List.length_drop, List.length_take]; rfl)) ?_; (with_reducible refine (quoinlaw18_done.calls k3 ((rd_T33 t535 x11_3).f0) ((rd_T33 t535 x11_3).f1) ((rd_T33 t535 x11_3).f2) ((rd_T33 t535 x11_3).f3) ((rd_T33 t535 x11_3).f4) a0 x10_3 t540 t541 _ ?sideLN A17.out).mono ?_); (case sideLN => (repeat (first | exact HLN.out | (with_reducible refine LaidN.alloc ?_ _) | (with_reducible refine LaidN.drewN ?_ _) | (with_reducible refine LaidN.drew ?_) | (refine LaidN.below HLN.out ?_; repeat (first | (with_reducible first | exact HB.out | apply below_alloc | apply pw_below_drewN | apply below_drew1) | exact HB.out))))); rintro e w20 ⟨rfl, hb⟩; refine ⟨_, rfl, ?_⟩; have n0_ := Aside0.mk (Kd.R_below (by (with_reducible repeat (first | apply Kd.R_alloc | apply Kd.R_drewN | apply Kd.R_drew)); exact HO_8.out) hb); have n1_ := Aside0.mk (below_step (by repeat (first | (with_reducible first | exact HB.out | apply below_alloc | apply pw_below_drewN | apply below_drew1) | exact HB.out)) hb); clear HO_8; clear HB; have HO_8 := n0_; have HB := n1_; clear n0_ n1_; (try clear hb); (try clear hb2); (try clear hk); (try clear hi)))
                    (try simp only [Act.put, List.setIfInBounds_toArray, List.set_cons_zero, List.set_cons_succ])
                    go_cut [61] (fun v61 wc => ∃ (kq : Nat) (x61_17 : Bool), v61 = .bool x61_17 ∧ Aside0 (quoinlaw18_LiHas.j3 kq a0 a1 t535 x11_3 t540 x61_17 = some r) ∧ Aside0 (kq ≤ k3) ∧ Aside0 (Kd.R k33 33 wc w.heap.size (fun _ => True) (.slice (some ad539) t535.length co19) t535) ∧ Aside0 (Below w.heap.size w wc))
                    case first =>
                      have H := HC18.out
                      clear HC18
                      by_cases c21 : t541 = true
                      · subst c21
                        have H1 : ((insn_Check.f k3 ((rd_T33 t535 x11_3).f0) ((rd_T33 t535 x11_3).f1) ((rd_T33 t535 x11_3).f2) ((rd_T33 t535 x11_3).f3) ((rd_T33 t535 x11_3).f4)).bind fun t543 => (quoinlaw18_LiHas.j3 k3 a0 a1 t535 x11_3 t540 (t543 != 0))) = some r := by rw [if_pos rfl] at H; exact H
                        clear H
                        have H := H1
                        clear H1
                        replace H := Option.bind_eq_some_iff.mp H
                        obtain ⟨t543, A220, H⟩ := H
                        replace H : (quoinlaw18_LiHas.j3 k3 a0 a1 t535 x11_3 t540 (t543 != 0)) = some r := H
                        have A22 := Aside0.mk A220
                        clear A220
                        have H' := Aside0.mk H
                        clear H
                        have p542 : 0 ≤ (x11_3 : Int) := of_decide_eq_true (by first | (with_reducible assumption) | assumption)
                        have q542 : x11_3 < (t535.length : Int) := of_decide_eq_true (by first | (with_reducible assumption) | assumption)
                        obtain ⟨ad542, e542, hx542_0, hx542_1, hx542_2, hx542_3, hx542_4⟩ := at_T33 (Kd.R_reads' HO_8.out).2.2 x11_3 p542 q542
                        obtain rfl : ad539 = ad542 := (by injection e542)
                        replace p542 := eq_true p542
                        replace q542 := eq_true q542
                        go_wp2_with (first | (go_at_call 28; (with_reducible refine (insn_Check.calls k3 ((rd_T33 t535 x11_3).f0) ((rd_T33 t535 x11_3).f1) ((rd_T33 t535 x11_3).f2) ((rd_T33 t535 x11_3).f3) ((rd_T33 t535 x11_3).f4) t543 _ A22.out).mono ?_); rintro e w23 ⟨rfl, hb⟩; have n0_ := Aside0.mk (Kd.R_below (by (with_reducible repeat (first | apply Kd.R_alloc | apply Kd.R_drewN | apply Kd.R_drew)); exact HO_8.out) hb); have n1_ := Aside0.mk (below_step (by repeat (first | (with_reducible first | exact HB.out | apply below_alloc | apply pw_below_drewN | apply below_drew1) | exact HB.out)) hb); clear HO_8; clear HB; have HO_8 := n0_; have HB := n1_; clear n0_ n1_; (try clear hb); (try clear hb2); (try clear hk); (try clear hi)))
                        go_meet
                        case rel => exact ⟨_, ((t543 != 0)), (by first | rfl | (simp; done) | (simp only [i64_w, i32_w]; first | done | rfl | (simp; done)) | (simp [*]; done)), H', ⟨by have := HJ5.out; have := HJ12.out; have := HK3.out; first | omega | exact Nat.le_refl _⟩, ⟨by (with_reducible repeat (first | apply Kd.R_alloc | apply Kd.R_drewN | apply Kd.R_drew)); exact HO_8.out⟩, ⟨by repeat (first | (with_reducible first | exact HB.out | apply below_alloc | apply pw_below_drewN | apply below_drew1) | exact HB.out)⟩⟩
                      · replace c21 := Bool.eq_false_iff.mpr c21
                        subst c21
                        have H1 : (quoinlaw18_LiHas.j3 k3 a0 a1 t535 x11_3 t540 true) = some r := by rw [if_neg (show ¬ (false = true) by decide)] at H; exact H
                        clear H
                        have H := H1
                        clear H1
                        have H' := Aside0.mk H
                        clear H
                        go_wp2
                        go_meet
                        case rel => exact ⟨_, (true), (by first | rfl | (simp; done) | (simp only [i64_w, i32_w]; first | done | rfl | (simp; done)) | (simp [*]; done)), H', ⟨by have := HJ5.out; have := HJ12.out; have := HK3.out; first | omega | exact Nat.le_refl _⟩, ⟨by (with_reducible repeat (first | apply Kd.R_alloc | apply Kd.R_drewN | apply Kd.R_drew)); exact HO_8.out⟩, ⟨by repeat (first | (with_reducible first | exact HB.out | apply below_alloc | apply pw_below_drewN | apply below_drew1) | exact HB.out)⟩⟩
                    case rest =>
                      clear HC18
                      try clear c1
                      try clear c2
                      try clear p2
                      try clear c3
                      try clear c4
                      try clear p5
                      try clear q5
                      try clear hx5
                      try clear c9
                      try clear c9b0
                      try clear c9b1
                      try clear c10
                      try clear c11
                      try clear c14
                      try clear c14b0
                      try clear c14b1
                      try clear c15
                      try clear c15b0
                      try clear c16
                      try clear c16b0
                      try clear c21
                      try clear hx539_0
                      try clear hx539_1
                      try clear hx539_2
                      try clear hx539_3
                      try clear hx539_4
                      try clear hx542_0
                      try clear hx542_1
                      try clear hx542_2
                      try clear hx542_3
                      try clear hx542_4
                      try clear p2
                      try clear p539
                      try clear p542
                      try clear q539
                      try clear q542
                      obtain ⟨kq, x61_17, rfl, HA, HJ17, HO_8, HB⟩ := hcut
                      cases kq with
                      | zero => exact absurd HA.out (by simp [quoinlaw18_LiHas.j3])
                      | succ kj17 =>
                        have H := HA.out
                        clear HA
                        simp only [quoinlaw18_LiHas.j3] at H
                        by_cases c24 : x61_17 = true
                        · subst c24
                          have H1 : (none) = some r := by rw [if_pos rfl] at H; exact H
                          clear H
                          have H := H1
                          clear H1
                          exact absurd H (by simp)
                        · replace c24 := Bool.eq_false_iff.mpr c24
                          subst c24
                          have H1 : (if a0 = 0 then (quoinlaw18_LiHas.l0 kj17 a0 a1 t535 0 (wrap64 (x11_3 + 1))) else (quoinlaw18_LiHas.l0 kj17 a0 a1 t535 t540 (wrap64 (x11_3 + 1)))) = some r := by rw [if_neg (show ¬ (false = true) by decide)] at H; exact H
                          clear H
                          have H := H1
                          clear H1
                          by_cases c25 : a0 = 0
                          · rw [if_pos c25] at H
                            have c25b0 : (a0 == 0) = true := beq_iff_eq.mpr c25
                            have c25b1 : (a0 != 0) = false := bne_eq_false_iff_eq.mpr c25
                            clear c25
                            have H' := Aside0.mk H
                            clear H
                            go_wp2
                            go_roundg kj17
                            case measure => have := HJ5.out; have := HJ12.out; have := HK3.out; have := HJ17.out; omega
                            case rel => exact ⟨(0), (wrap64 (x11_3 + 1)), (by first | rfl | (simp; done) | (simp only [i64_w, i32_w]; first | done | rfl | (simp; done)) | (simp [*]; done)), (by first | rfl | (simp; done) | (simp only [i64_w, i32_w]; first | done | rfl | (simp; done)) | (simp [*]; done)), H', ⟨by have := HJ5.out; have := HJ12.out; have := HK3.out; have := HJ17.out; omega⟩, ⟨by (with_reducible repeat (first | apply Kd.R_alloc | apply Kd.R_drewN | apply Kd.R_drew)); exact HO_8.out⟩, ⟨by repeat (first | (with_reducible first | exact HB.out | apply below_alloc | apply pw_below_drewN | apply below_drew1) | exact HB.out)⟩⟩
                          · rw [if_neg c25] at H
                            have c25b0 : (a0 == 0) = false := beq_eq_false_iff_ne.mpr c25
                            have c25b1 : (a0 != 0) = true := bne_iff_ne.mpr c25
                            have H' := Aside0.mk H
                            clear H
                            go_wp2
                            go_roundg kj17
                            case measure => have := HJ5.out; have := HJ12.out; have := HK3.out; have := HJ17.out; omega
                            case rel => exact ⟨(t540), (wrap64 (x11_3 + 1)), (by first | rfl | (simp; done) | (simp only [i64_w, i32_w]; first | done | rfl | (simp; done)) | (simp [*]; done)), (by first | rfl | (simp; done) | (simp only [i64_w, i32_w]; first | done | rfl | (simp; done)) | (simp [*]; done)), H', ⟨by have := HJ5.out; have := HJ12.out; have := HK3.out; have := HJ17.out; omega⟩, ⟨by (with_reducible repeat (first | apply Kd.R_alloc | apply Kd.R_drewN | apply Kd.R_drew)); exact HO_8.out⟩, ⟨by repeat (first | (with_reducible first | exact HB.out | apply below_alloc | apply pw_below_drewN | apply below_drew1) | exact HB.out)⟩⟩
                  · rw [if_neg c16] at H
                    exact absurd H (by simp)
                · rw [if_neg c15] at H
                  have c15b0 : decide (x11_3 < (t535.length : Int)) = false := decide_eq_false c15
                  clear c15
                  by_cases c26 : (t535.length : Int) ≥ 1
                  · rw [if_pos c26] at H
                    have c26b0 : decide (1 ≤ (t535.length : Int)) = true := decide_eq_true c26
                    have c26b1 : decide (1 ≤ t535.length) = true := decide_eq_true (by omega)
                    clear c26
                    by_cases c27 : (t535.length : Int) ≤ 8
                    · rw [if_pos c27] at H
                      have c27b0 : decide ((t535.length : Int) ≤ 8) = true := decide_eq_true c27
                      have c27b1 : decide (t535.length ≤ 8) = true := decide_eq_true (by omega)
                      clear c27
                      by_cases c28 : a0 = 0
                      · rw [if_pos c28] at H
                        have c28b0 : (a0 == 0) = true := beq_iff_eq.mpr c28
                        have c28b1 : (a0 != 0) = false := bne_eq_false_iff_eq.mpr c28
                        clear c28
                        obtain rfl := Option.some.inj H
                        obtain ⟨Ao29, co29, eo29⟩ := Kd.R_slice HO_8.out
                        subst eo29
                        go_wp2
                        go_ret
                        exact ⟨by first | rfl | (simp [errW_none, errW_some] <;> rfl) | (simp [*, errW_none, errW_some] <;> rfl), by repeat (first | (with_reducible first | exact HB.out | apply below_alloc | apply pw_below_drewN | apply below_drew1) | exact HB.out)⟩
                      · rw [if_neg c28] at H
                        have c28b0 : (a0 == 0) = false := beq_eq_false_iff_ne.mpr c28
                        have c28b1 : (a0 != 0) = true := bne_iff_ne.mpr c28
                        obtain rfl := Option.some.inj H
                        obtain ⟨Ao30, co30, eo30⟩ := Kd.R_slice HO_8.out
                        subst eo30
                        go_wp2
                        go_ret
                        exact ⟨by first | rfl | (simp [errW_none, errW_some] <;> rfl) | (simp [*, errW_none, errW_some] <;> rfl), by repeat (first | (with_reducible first | exact HB.out | apply below_alloc | apply pw_below_drewN | apply below_drew1) | exact HB.out)⟩
                    · rw [if_neg c27] at H
                      exact absurd H (by simp)
                  · rw [if_neg c26] at H
                    exact absurd H (by simp)

end Go.Proofs.YtpijiohiohiilaaDoor.D
