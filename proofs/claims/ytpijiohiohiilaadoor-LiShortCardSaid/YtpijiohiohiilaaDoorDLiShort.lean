/- Walks and rows of the laws of quoin: each Lean function here tells just what the Go function of its name answers. Conditions: none but those that a row itself names. Written by a program of this session (wip/reprint.py) over the kit print, and turned by it. -/
import Derived.Test.YtpijiohiohiilaaDoorD0
import Derived.Test.YtpijiohiohiilaaDoorDInsn
import Derived.Test.YtpijiohiohiilaaDoorDQuoinlaw18
import Derived.Test.YtpijiohiohiilaaDoorGLi
namespace Go.Proofs.YtpijiohiohiilaaDoor.D
open Go.RowKit Go.Proofs.YtpijiohiohiilaaDoorW.PrintWords Go.Proofs.YtpijiohiohiilaaDoorW.PrintLast Go.Proofs.YtpijiohiohiilaaDoorW.PrintMore
attribute [local go_sem] max2_int min2_int max_two min_two max_three min_three max_four min_four   -- for this text's walks alone
set_option linter.unusedVariables false
set_option linter.unusedSimpArgs false

/-! ### quoinlaw18_LiShort: function 13 -/
mutual
def quoinlaw18_LiShort.j0 : Nat → Int → Int → List (S33) → Bool → Option (Bool)
  | 0, _, _, _, _ => none
  | k + 1, x0, x1, x5, x19 => if x19 = true then ((quoinlaw18_alive.f k).bind fun t523 => (if t523 = true then (some ((x5.length : Int) == 0)) else (none))) else (if x1 ≥ (-2048) then (if x1 < 2048 then (if (x5.length : Int) = 1 then (if x1 ≥ (-2147483648) then (if x1 < 2147483648 then (if (x5.length : Int) > 2 then (quoinlaw18_LiShort.j1 k x0 x5 true) else (if (x5.length : Int) < 1 then (quoinlaw18_LiShort.j1 k x0 x5 true) else (quoinlaw18_LiShort.j1 k x0 x5 (decide ((x5.length : Int) > 8))))) else (if (x5.length : Int) < 1 then (quoinlaw18_LiShort.j1 k x0 x5 true) else (quoinlaw18_LiShort.j1 k x0 x5 (decide ((x5.length : Int) > 8))))) else (if (x5.length : Int) < 1 then (quoinlaw18_LiShort.j1 k x0 x5 true) else (quoinlaw18_LiShort.j1 k x0 x5 (decide ((x5.length : Int) > 8))))) else (quoinlaw18_LiShort.j1 k x0 x5 true)) else (if x1 ≥ (-2147483648) then (if x1 < 2147483648 then (if (x5.length : Int) > 2 then (quoinlaw18_LiShort.j1 k x0 x5 true) else (if (x5.length : Int) < 1 then (quoinlaw18_LiShort.j1 k x0 x5 true) else (quoinlaw18_LiShort.j1 k x0 x5 (decide ((x5.length : Int) > 8))))) else (if (x5.length : Int) < 1 then (quoinlaw18_LiShort.j1 k x0 x5 true) else (quoinlaw18_LiShort.j1 k x0 x5 (decide ((x5.length : Int) > 8))))) else (if (x5.length : Int) < 1 then (quoinlaw18_LiShort.j1 k x0 x5 true) else (quoinlaw18_LiShort.j1 k x0 x5 (decide ((x5.length : Int) > 8)))))) else (if x1 ≥ (-2147483648) then (if x1 < 2147483648 then (if (x5.length : Int) > 2 then (quoinlaw18_LiShort.j1 k x0 x5 true) else (if (x5.length : Int) < 1 then (quoinlaw18_LiShort.j1 k x0 x5 true) else (quoinlaw18_LiShort.j1 k x0 x5 (decide ((x5.length : Int) > 8))))) else (if (x5.length : Int) < 1 then (quoinlaw18_LiShort.j1 k x0 x5 true) else (quoinlaw18_LiShort.j1 k x0 x5 (decide ((x5.length : Int) > 8))))) else (if (x5.length : Int) < 1 then (quoinlaw18_LiShort.j1 k x0 x5 true) else (quoinlaw18_LiShort.j1 k x0 x5 (decide ((x5.length : Int) > 8))))))
def quoinlaw18_LiShort.j1 : Nat → Int → List (S33) → Bool → Option (Bool)
  | 0, _, _, _ => none
  | k + 1, x0, x5, x59 => if x59 = true then (none) else (quoinlaw18_LiShort.l0 k x0 x5 0)
def quoinlaw18_LiShort.l0 : Nat → Int → List (S33) → Int → Option (Bool)
  | 0, _, _, _ => none
  | k + 1, x0, x5, x7 => if x7 < (x5.length : Int) then (if 0 ≤ x7 then ((insn_Check.f k ((rd_T33 x5 x7).f0) ((rd_T33 x5 x7).f1) ((rd_T33 x5 x7).f2) ((rd_T33 x5 x7).f3) ((rd_T33 x5 x7).f4)).bind fun t525 => (if t525 = 0 then (if ((rd_T33 x5 x7).f1) = x0 then (if ((rd_T33 x5 x7).f2) = x0 then (if ((rd_T33 x5 x7).f3) = 0 then (quoinlaw18_LiShort.l0 k x0 x5 (wrap64 (x7 + 1))) else (none)) else (if ((rd_T33 x5 x7).f2) = 0 then (if ((rd_T33 x5 x7).f3) = 0 then (quoinlaw18_LiShort.l0 k x0 x5 (wrap64 (x7 + 1))) else (none)) else (none))) else (none)) else (none))) else (none)) else (some true)
end
def quoinlaw18_LiShort.f (k : Nat) (a0 : Int) (a1 : Int) : Option (Bool) := (li_Steps.f k a0 a1).bind fun bt518 => (if bt518.2 = 0 then ((quoinlaw18_alive.f k).bind fun t522 => (quoinlaw18_LiShort.j0 k a0 a1 bt518.1 (!t522))) else (quoinlaw18_LiShort.j0 k a0 a1 bt518.1 true))
theorem quoinlaw18_LiShort.mono_l : ∀ k, (∀ y0 y1 y2 y3, LeO (quoinlaw18_LiShort.j0 k y0 y1 y2 y3) (quoinlaw18_LiShort.j0 (k + 1) y0 y1 y2 y3)) ∧ (∀ y0 y1 y2, LeO (quoinlaw18_LiShort.j1 k y0 y1 y2) (quoinlaw18_LiShort.j1 (k + 1) y0 y1 y2)) ∧ (∀ y0 y1 y2, LeO (quoinlaw18_LiShort.l0 k y0 y1 y2) (quoinlaw18_LiShort.l0 (k + 1) y0 y1 y2))
  | 0 => ⟨fun _ _ _ _ r h => by simp [quoinlaw18_LiShort.j0] at h, fun _ _ _ r h => by simp [quoinlaw18_LiShort.j1] at h, fun _ _ _ r h => by simp [quoinlaw18_LiShort.l0] at h⟩
  | k + 1 => by
    obtain ⟨ih0, ih1, ih2⟩ := quoinlaw18_LiShort.mono_l k
    refine ⟨?_, ?_, ?_⟩
    · intro y0 y1 y2 y3
      unfold quoinlaw18_LiShort.j0
      repeat' first
      | (with_reducible exact ih0 _ _ _ _)
      | (with_reducible exact ih1 _ _ _)
      | (with_reducible exact ih2 _ _ _)
      | (with_reducible exact insn_Check.mono _ _ _ _ _ _)
      | (with_reducible exact li_Steps.mono _ _ _)
      | (with_reducible exact quoinlaw18_alive.mono _)
      | (with_reducible exact LeO.refl _)
      | (with_reducible exact LeO.none _)
      | (with_reducible refine LeO.ite ?_ ?_)
      | (with_reducible refine LeO.bind ?_ (fun _ => ?_))
      | exact ih0 _ _ _ _
      | exact ih1 _ _ _
      | exact ih2 _ _ _
      | exact insn_Check.mono _ _ _ _ _ _
      | exact li_Steps.mono _ _ _
      | exact quoinlaw18_alive.mono _
      | exact LeO.none _
      | refine LeO.ite ?_ ?_
      | refine LeO.bind ?_ (fun _ => ?_)
    · intro y0 y1 y2
      unfold quoinlaw18_LiShort.j1
      repeat' first
      | (with_reducible exact ih0 _ _ _ _)
      | (with_reducible exact ih1 _ _ _)
      | (with_reducible exact ih2 _ _ _)
      | (with_reducible exact insn_Check.mono _ _ _ _ _ _)
      | (with_reducible exact li_Steps.mono _ _ _)
      | (with_reducible exact quoinlaw18_alive.mono _)
      | (with_reducible exact LeO.refl _)
      | (with_reducible exact LeO.none _)
      | (with_reducible refine LeO.ite ?_ ?_)
      | (with_reducible refine LeO.bind ?_ (fun _ => ?_))
      | exact ih0 _ _ _ _
      | exact ih1 _ _ _
      | exact ih2 _ _ _
      | exact insn_Check.mono _ _ _ _ _ _
      | exact li_Steps.mono _ _ _
      | exact quoinlaw18_alive.mono _
      | exact LeO.none _
      | refine LeO.ite ?_ ?_
      | refine LeO.bind ?_ (fun _ => ?_)
    · intro y0 y1 y2
      unfold quoinlaw18_LiShort.l0
      repeat' first
      | (with_reducible exact ih0 _ _ _ _)
      | (with_reducible exact ih1 _ _ _)
      | (with_reducible exact ih2 _ _ _)
      | (with_reducible exact insn_Check.mono _ _ _ _ _ _)
      | (with_reducible exact li_Steps.mono _ _ _)
      | (with_reducible exact quoinlaw18_alive.mono _)
      | (with_reducible exact LeO.refl _)
      | (with_reducible exact LeO.none _)
      | (with_reducible refine LeO.ite ?_ ?_)
      | (with_reducible refine LeO.bind ?_ (fun _ => ?_))
      | exact ih0 _ _ _ _
      | exact ih1 _ _ _
      | exact ih2 _ _ _
      | exact insn_Check.mono _ _ _ _ _ _
      | exact li_Steps.mono _ _ _
      | exact quoinlaw18_alive.mono _
      | exact LeO.none _
      | refine LeO.ite ?_ ?_
      | refine LeO.bind ?_ (fun _ => ?_)
theorem quoinlaw18_LiShort.mono : ∀ a0 a1 k, LeO (quoinlaw18_LiShort.f k a0 a1) (quoinlaw18_LiShort.f (k + 1) a0 a1) := by
  intro a0 a1 k
  obtain ⟨ih0, ih1, ih2⟩ := quoinlaw18_LiShort.mono_l k
  unfold quoinlaw18_LiShort.f
  repeat' first
      | (with_reducible exact ih0 _ _ _ _)
      | (with_reducible exact ih1 _ _ _)
      | (with_reducible exact ih2 _ _ _)
      | (with_reducible exact insn_Check.mono _ _ _ _ _ _)
      | (with_reducible exact li_Steps.mono _ _ _)
      | (with_reducible exact quoinlaw18_alive.mono _)
      | (with_reducible exact LeO.refl _)
      | (with_reducible exact LeO.none _)
      | (with_reducible refine LeO.ite ?_ ?_)
      | (with_reducible refine LeO.bind ?_ (fun _ => ?_))
      | exact ih0 _ _ _ _
      | exact ih1 _ _ _
      | exact ih2 _ _ _
      | exact insn_Check.mono _ _ _ _ _ _
      | exact li_Steps.mono _ _ _
      | exact quoinlaw18_alive.mono _
      | exact LeO.none _
      | refine LeO.ite ?_ ?_
      | refine LeO.bind ?_ (fun _ => ?_)
set_option maxHeartbeats 8000000 in
set_option maxRecDepth 100000 in
theorem quoinlaw18_LiShort.calls (k : Nat) (a0 : Int) (a1 : Int) (r : Bool) (w : World) (hN : LaidN w) (h : quoinlaw18_LiShort.f k a0 a1 = some r) :
    Calls Tryd.prog 13 #[.int .i64 a0, .int .i64 a1] w fun e w' => e = .returned (.bool r) ∧ Below w.heap.size w w' := by
  have HLN := Aside0.mk hN
  clear hN
  have hu33 := Tryd.underlying33
  have HB := Aside0.mk (Below.refl w.heap.size w)
  have H : ((li_Steps.f k a0 a1).bind fun bt518 => (if bt518.2 = 0 then ((quoinlaw18_alive.f k).bind fun t522 => (quoinlaw18_LiShort.j0 k a0 a1 bt518.1 (!t522))) else (quoinlaw18_LiShort.j0 k a0 a1 bt518.1 true))) = some r := h
  clear h
  replace H := Option.bind_eq_some_iff.mp H
  obtain ⟨⟨t518, t519⟩, A30, H⟩ := H
  replace H : (if t519 = 0 then ((quoinlaw18_alive.f k).bind fun t522 => (quoinlaw18_LiShort.j0 k a0 a1 t518 (!t522))) else (quoinlaw18_LiShort.j0 k a0 a1 t518 true)) = some r := H
  have A3 := Aside0.mk A30
  clear A30
  have HC4 := Aside0.mk H
  clear H
  go_enter Tryd.func13, Tryd.ntmps13
  go_upto_region 2 with (first | ((with_reducible refine gate_callee (f := 33) rfl ?_); refine goesL_ (some 11) rfl rfl Tryd.func33 (by kernel_rfl) rfl #[.int .i64 a0, .int .i64 a1] rfl (by (try simp only [List.map_toArray, List.map_cons, List.map_nil]); first | done | rfl | (simp only [List.length_drop, List.length_take]; rfl)) ?_; (with_reducible refine (li_Steps.calls k a0 a1 t518 t519 _ ?sideLN A3.out).mono ?_); (case sideLN => (repeat (first | exact HLN.out | (with_reducible refine LaidN.alloc ?_ _) | (with_reducible refine LaidN.drewN ?_ _) | (with_reducible refine LaidN.drew ?_) | (refine LaidN.below HLN.out ?_; repeat (first | (with_reducible first | exact HB.out | apply below_alloc | apply pw_below_drewN | apply below_drew1) | exact HB.out))))); rintro e w5 ⟨v520, rfl, ho0, hb⟩; refine ⟨_, rfl, ?_⟩; have n0_ := Aside0.mk (Kd.R_lower ho0 (below_size (by repeat (first | (with_reducible first | exact HB.out | apply below_alloc | apply pw_below_drewN | apply below_drew1) | exact HB.out)))); have n1_ := Aside0.mk (below_step (by repeat (first | (with_reducible first | exact HB.out | apply below_alloc | apply pw_below_drewN | apply below_drew1) | exact HB.out)) hb); clear HB; have HO521 := n0_; have HB := n1_; clear n0_ n1_; (try clear hb); (try clear hb2); (try clear hk); (try clear hi); (try clear ho0)))
  (try simp only [Act.put, List.setIfInBounds_toArray, List.set_cons_zero, List.set_cons_succ])
  go_cut [19] (fun v19 wc => ∃ (kq : Nat) (x19_3 : Bool), v19 = .bool x19_3 ∧ Aside0 (quoinlaw18_LiShort.j0 kq a0 a1 t518 x19_3 = some r) ∧ Aside0 (kq ≤ k) ∧ Aside0 (Kd.R k33 33 wc w.heap.size (fun _ => True) v520 t518) ∧ Aside0 (Below w.heap.size w wc))
  case first =>
    have H := HC4.out
    clear HC4
    by_cases c6 : t519 = 0
    · rw [if_pos c6] at H
      have c6b0 : (t519 == 0) = true := beq_iff_eq.mpr c6
      have c6b1 : (t519 != 0) = false := bne_eq_false_iff_eq.mpr c6
      clear c6
      (first | rw [c6b0] | (simp only [i64_w, i32_w]; rw [c6b0]) | rw [c6b1] | skip)
      replace H := Option.bind_eq_some_iff.mp H
      obtain ⟨t522, A70, H⟩ := H
      replace H : (quoinlaw18_LiShort.j0 k a0 a1 t518 (!t522)) = some r := H
      have A7 := Aside0.mk A70
      clear A70
      have H' := Aside0.mk H
      clear H
      go_wp2_with (first | (go_at_call 34; (with_reducible refine (quoinlaw18_alive.calls k  t522 _ ?sideLN A7.out).mono ?_); (case sideLN => (repeat (first | exact HLN.out | (with_reducible refine LaidN.alloc ?_ _) | (with_reducible refine LaidN.drewN ?_ _) | (with_reducible refine LaidN.drew ?_) | (refine LaidN.below HLN.out ?_; repeat (first | (with_reducible first | exact HB.out | apply below_alloc | apply pw_below_drewN | apply below_drew1) | exact HB.out))))); rintro e w8 ⟨rfl, hb⟩; have n0_ := Aside0.mk (Kd.R_below (by (with_reducible repeat (first | apply Kd.R_alloc | apply Kd.R_drewN | apply Kd.R_drew)); exact HO521.out) hb); have n1_ := Aside0.mk (below_step (by repeat (first | (with_reducible first | exact HB.out | apply below_alloc | apply pw_below_drewN | apply below_drew1) | exact HB.out)) hb); clear HO521; clear HB; have HO521 := n0_; have HB := n1_; clear n0_ n1_; (try clear hb); (try clear hb2); (try clear hk); (try clear hi)))
      go_meet
      case rel => exact ⟨_, (!t522), (by first | rfl | (simp; done) | (simp only [i64_w, i32_w]; first | done | rfl | (simp; done)) | (simp [*]; done)), H', ⟨by first | omega | exact Nat.le_refl _⟩, ⟨by (with_reducible repeat (first | apply Kd.R_alloc | apply Kd.R_drewN | apply Kd.R_drew)); exact HO521.out⟩, ⟨by repeat (first | (with_reducible first | exact HB.out | apply below_alloc | apply pw_below_drewN | apply below_drew1) | exact HB.out)⟩⟩
    · rw [if_neg c6] at H
      have c6b0 : (t519 == 0) = false := beq_eq_false_iff_ne.mpr c6
      have c6b1 : (t519 != 0) = true := bne_iff_ne.mpr c6
      (first | rw [c6b0] | (simp only [i64_w, i32_w]; rw [c6b0]) | rw [c6b1] | skip)
      have H' := Aside0.mk H
      clear H
      go_wp2
      go_meet
      case rel => exact ⟨_, (true), (by first | rfl | (simp; done) | (simp only [i64_w, i32_w]; first | done | rfl | (simp; done)) | (simp [*]; done)), H', ⟨by first | omega | exact Nat.le_refl _⟩, ⟨by (with_reducible repeat (first | apply Kd.R_alloc | apply Kd.R_drewN | apply Kd.R_drew)); exact HO521.out⟩, ⟨by repeat (first | (with_reducible first | exact HB.out | apply below_alloc | apply pw_below_drewN | apply below_drew1) | exact HB.out)⟩⟩
  case rest =>
    clear HC4
    try clear c1
    try clear p2
    try clear c3
    try clear c6
    try clear c6b0
    try clear c6b1
    obtain ⟨kq, x19_3, rfl, HA, HJ3, HO_5, HB⟩ := hcut
    cases kq with
    | zero => exact absurd HA.out (by simp [quoinlaw18_LiShort.j0])
    | succ kj3 =>
      have H := HA.out
      clear HA
      simp only [quoinlaw18_LiShort.j0] at H
      by_cases c9 : x19_3 = true
      · subst c9
        have H1 : ((quoinlaw18_alive.f kj3).bind fun t523 => (if t523 = true then (some ((t518.length : Int) == 0)) else (none))) = some r := by rw [if_pos rfl] at H; exact H
        clear H
        have H := H1
        clear H1
        replace H := Option.bind_eq_some_iff.mp H
        obtain ⟨t523, A100, H⟩ := H
        replace H : (if t523 = true then (some ((t518.length : Int) == 0)) else (none)) = some r := H
        have A10 := Aside0.mk A100
        clear A100
        by_cases c11 : t523 = true
        · subst c11
          have H1 : (some ((t518.length : Int) == 0)) = some r := by rw [if_pos rfl] at H; exact H
          clear H
          have H := H1
          clear H1
          obtain rfl := Option.some.inj H
          go_wp2_with (first | ((with_reducible refine gate_callee (f := 34) rfl ?_); refine goesL_ (some 20) rfl rfl Tryd.func34 (by kernel_rfl) rfl #[] rfl (by (try simp only [List.map_toArray, List.map_cons, List.map_nil]); first | done | rfl | (simp only [List.length_drop, List.length_take]; rfl)) ?_; (with_reducible refine (quoinlaw18_alive.calls kj3  true _ ?sideLN A10.out).mono ?_); (case sideLN => (repeat (first | exact HLN.out | (with_reducible refine LaidN.alloc ?_ _) | (with_reducible refine LaidN.drewN ?_ _) | (with_reducible refine LaidN.drew ?_) | (refine LaidN.below HLN.out ?_; repeat (first | (with_reducible first | exact HB.out | apply below_alloc | apply pw_below_drewN | apply below_drew1) | exact HB.out))))); rintro e w12 ⟨rfl, hb⟩; refine ⟨_, rfl, ?_⟩; have n0_ := Aside0.mk (Kd.R_below (by (with_reducible repeat (first | apply Kd.R_alloc | apply Kd.R_drewN | apply Kd.R_drew)); exact HO_5.out) hb); have n1_ := Aside0.mk (below_step (by repeat (first | (with_reducible first | exact HB.out | apply below_alloc | apply pw_below_drewN | apply below_drew1) | exact HB.out)) hb); clear HO_5; clear HB; have HO_5 := n0_; have HB := n1_; clear n0_ n1_; (try clear hb); (try clear hb2); (try clear hk); (try clear hi); obtain ⟨Ao13, co13, eo13⟩ := Kd.R_slice HO_5.out; subst eo13))
          go_ret
          exact ⟨by first | rfl | (simp [errW_none, errW_some] <;> rfl) | (simp [*, errW_none, errW_some] <;> rfl), by repeat (first | (with_reducible first | exact HB.out | apply below_alloc | apply pw_below_drewN | apply below_drew1) | exact HB.out)⟩
        · replace c11 := Bool.eq_false_iff.mpr c11
          subst c11
          have H1 : (none) = some r := by rw [if_neg (show ¬ (false = true) by decide)] at H; exact H
          clear H
          have H := H1
          clear H1
          exact absurd H (by simp)
      · replace c9 := Bool.eq_false_iff.mpr c9
        subst c9
        have H1 : (if a1 ≥ (-2048) then (if a1 < 2048 then (if (t518.length : Int) = 1 then (if a1 ≥ (-2147483648) then (if a1 < 2147483648 then (if (t518.length : Int) > 2 then (quoinlaw18_LiShort.j1 kj3 a0 t518 true) else (if (t518.length : Int) < 1 then (quoinlaw18_LiShort.j1 kj3 a0 t518 true) else (quoinlaw18_LiShort.j1 kj3 a0 t518 (decide ((t518.length : Int) > 8))))) else (if (t518.length : Int) < 1 then (quoinlaw18_LiShort.j1 kj3 a0 t518 true) else (quoinlaw18_LiShort.j1 kj3 a0 t518 (decide ((t518.length : Int) > 8))))) else (if (t518.length : Int) < 1 then (quoinlaw18_LiShort.j1 kj3 a0 t518 true) else (quoinlaw18_LiShort.j1 kj3 a0 t518 (decide ((t518.length : Int) > 8))))) else (quoinlaw18_LiShort.j1 kj3 a0 t518 true)) else (if a1 ≥ (-2147483648) then (if a1 < 2147483648 then (if (t518.length : Int) > 2 then (quoinlaw18_LiShort.j1 kj3 a0 t518 true) else (if (t518.length : Int) < 1 then (quoinlaw18_LiShort.j1 kj3 a0 t518 true) else (quoinlaw18_LiShort.j1 kj3 a0 t518 (decide ((t518.length : Int) > 8))))) else (if (t518.length : Int) < 1 then (quoinlaw18_LiShort.j1 kj3 a0 t518 true) else (quoinlaw18_LiShort.j1 kj3 a0 t518 (decide ((t518.length : Int) > 8))))) else (if (t518.length : Int) < 1 then (quoinlaw18_LiShort.j1 kj3 a0 t518 true) else (quoinlaw18_LiShort.j1 kj3 a0 t518 (decide ((t518.length : Int) > 8)))))) else (if a1 ≥ (-2147483648) then (if a1 < 2147483648 then (if (t518.length : Int) > 2 then (quoinlaw18_LiShort.j1 kj3 a0 t518 true) else (if (t518.length : Int) < 1 then (quoinlaw18_LiShort.j1 kj3 a0 t518 true) else (quoinlaw18_LiShort.j1 kj3 a0 t518 (decide ((t518.length : Int) > 8))))) else (if (t518.length : Int) < 1 then (quoinlaw18_LiShort.j1 kj3 a0 t518 true) else (quoinlaw18_LiShort.j1 kj3 a0 t518 (decide ((t518.length : Int) > 8))))) else (if (t518.length : Int) < 1 then (quoinlaw18_LiShort.j1 kj3 a0 t518 true) else (quoinlaw18_LiShort.j1 kj3 a0 t518 (decide ((t518.length : Int) > 8)))))) = some r := by rw [if_neg (show ¬ (false = true) by decide)] at H; exact H
        clear H
        have H := H1
        clear H1
        have HC14 := Aside0.mk H
        clear H
        go_upto_region 4 with (fail)
        go_cut [59] (fun v59 wc => ∃ (kq : Nat) (x59_13 : Bool), v59 = .bool x59_13 ∧ Aside0 (quoinlaw18_LiShort.j1 kq a0 t518 x59_13 = some r) ∧ Aside0 (kq ≤ kj3) ∧ Aside0 (Kd.R k33 33 wc w.heap.size (fun _ => True) v520 t518) ∧ Aside0 (Below w.heap.size w wc))
        case first =>
          have H := HC14.out
          clear HC14
          by_cases c15 : a1 ≥ (-2048)
          · rw [if_pos c15] at H
            have c15b0 : decide ((-2048) ≤ a1) = true := decide_eq_true c15
            clear c15
            (first | rw [c15b0] | (simp only [i64_w, i32_w]; rw [c15b0]) | rw [c15b1] | skip)
            by_cases c16 : a1 < 2048
            · rw [if_pos c16] at H
              have c16b0 : decide (a1 < 2048) = true := decide_eq_true c16
              clear c16
              by_cases c17 : (t518.length : Int) = 1
              · rw [if_pos c17] at H
                have c17b0 : ((t518.length : Int) == 1) = true := beq_iff_eq.mpr c17
                have c17b1 : ((t518.length : Int) != 1) = false := bne_eq_false_iff_eq.mpr c17
                clear c17
                by_cases c18 : a1 ≥ (-2147483648)
                · rw [if_pos c18] at H
                  have c18b0 : decide ((-2147483648) ≤ a1) = true := decide_eq_true c18
                  clear c18
                  by_cases c19 : a1 < 2147483648
                  · rw [if_pos c19] at H
                    have c19b0 : decide (a1 < 2147483648) = true := decide_eq_true c19
                    clear c19
                    by_cases c20 : (t518.length : Int) > 2
                    · rw [if_pos c20] at H
                      have c20b0 : decide (2 < (t518.length : Int)) = true := decide_eq_true c20
                      have c20b1 : decide (2 < t518.length) = true := decide_eq_true (by omega)
                      clear c20
                      have H' := Aside0.mk H
                      clear H
                      obtain ⟨Ao21, co21, eo21⟩ := Kd.R_slice HO_5.out
                      subst eo21
                      go_wp2
                      go_meet
                      case rel => exact ⟨_, (true), (by first | rfl | (simp; done) | (simp only [i64_w, i32_w]; first | done | rfl | (simp; done)) | (simp [*]; done)), H', ⟨by have := HJ3.out; first | omega | exact Nat.le_refl _⟩, ⟨by (with_reducible repeat (first | apply Kd.R_alloc | apply Kd.R_drewN | apply Kd.R_drew)); exact HO_5.out⟩, ⟨by repeat (first | (with_reducible first | exact HB.out | apply below_alloc | apply pw_below_drewN | apply below_drew1) | exact HB.out)⟩⟩
                    · rw [if_neg c20] at H
                      have c20b0 : decide (2 < (t518.length : Int)) = false := decide_eq_false c20
                      have c20b1 : decide (2 < t518.length) = false := decide_eq_false (by omega)
                      clear c20
                      by_cases c22 : (t518.length : Int) < 1
                      · rw [if_pos c22] at H
                        have c22b0 : decide ((t518.length : Int) < 1) = true := decide_eq_true c22
                        have c22b1 : decide (t518.length < 1) = true := decide_eq_true (by omega)
                        clear c22
                        have H' := Aside0.mk H
                        clear H
                        obtain ⟨Ao23, co23, eo23⟩ := Kd.R_slice HO_5.out
                        subst eo23
                        go_wp2
                        go_meet
                        case rel => exact ⟨_, (true), (by first | rfl | (simp; done) | (simp only [i64_w, i32_w]; first | done | rfl | (simp; done)) | (simp [*]; done)), H', ⟨by have := HJ3.out; first | omega | exact Nat.le_refl _⟩, ⟨by (with_reducible repeat (first | apply Kd.R_alloc | apply Kd.R_drewN | apply Kd.R_drew)); exact HO_5.out⟩, ⟨by repeat (first | (with_reducible first | exact HB.out | apply below_alloc | apply pw_below_drewN | apply below_drew1) | exact HB.out)⟩⟩
                      · rw [if_neg c22] at H
                        have c22b0 : decide ((t518.length : Int) < 1) = false := decide_eq_false c22
                        have c22b1 : decide (t518.length < 1) = false := decide_eq_false (by omega)
                        clear c22
                        have H' := Aside0.mk H
                        clear H
                        obtain ⟨Ao24, co24, eo24⟩ := Kd.R_slice HO_5.out
                        subst eo24
                        go_wp2
                        go_meet
                        case rel => exact ⟨_, (decide ((t518.length : Int) > 8)), (by first | rfl | (simp; done) | (simp only [i64_w, i32_w]; first | done | rfl | (simp; done)) | (simp [*]; done)), H', ⟨by have := HJ3.out; first | omega | exact Nat.le_refl _⟩, ⟨by (with_reducible repeat (first | apply Kd.R_alloc | apply Kd.R_drewN | apply Kd.R_drew)); exact HO_5.out⟩, ⟨by repeat (first | (with_reducible first | exact HB.out | apply below_alloc | apply pw_below_drewN | apply below_drew1) | exact HB.out)⟩⟩
                  · rw [if_neg c19] at H
                    have c19b0 : decide (a1 < 2147483648) = false := decide_eq_false c19
                    clear c19
                    by_cases c25 : (t518.length : Int) < 1
                    · rw [if_pos c25] at H
                      have c25b0 : decide ((t518.length : Int) < 1) = true := decide_eq_true c25
                      have c25b1 : decide (t518.length < 1) = true := decide_eq_true (by omega)
                      clear c25
                      have H' := Aside0.mk H
                      clear H
                      obtain ⟨Ao26, co26, eo26⟩ := Kd.R_slice HO_5.out
                      subst eo26
                      go_wp2
                      go_meet
                      case rel => exact ⟨_, (true), (by first | rfl | (simp; done) | (simp only [i64_w, i32_w]; first | done | rfl | (simp; done)) | (simp [*]; done)), H', ⟨by have := HJ3.out; first | omega | exact Nat.le_refl _⟩, ⟨by (with_reducible repeat (first | apply Kd.R_alloc | apply Kd.R_drewN | apply Kd.R_drew)); exact HO_5.out⟩, ⟨by repeat (first | (with_reducible first | exact HB.out | apply below_alloc | apply pw_below_drewN | apply below_drew1) | exact HB.out)⟩⟩
                    · rw [if_neg c25] at H
                      have c25b0 : decide ((t518.length : Int) < 1) = false := decide_eq_false c25
                      have c25b1 : decide (t518.length < 1) = false := decide_eq_false (by omega)
                      clear c25
                      have H' := Aside0.mk H
                      clear H
                      obtain ⟨Ao27, co27, eo27⟩ := Kd.R_slice HO_5.out
                      subst eo27
                      go_wp2
                      go_meet
                      case rel => exact ⟨_, (decide ((t518.length : Int) > 8)), (by first | rfl | (simp; done) | (simp only [i64_w, i32_w]; first | done | rfl | (simp; done)) | (simp [*]; done)), H', ⟨by have := HJ3.out; first | omega | exact Nat.le_refl _⟩, ⟨by (with_reducible repeat (first | apply Kd.R_alloc | apply Kd.R_drewN | apply Kd.R_drew)); exact HO_5.out⟩, ⟨by repeat (first | (with_reducible first | exact HB.out | apply below_alloc | apply pw_below_drewN | apply below_drew1) | exact HB.out)⟩⟩
                · rw [if_neg c18] at H
                  have c18b0 : decide ((-2147483648) ≤ a1) = false := decide_eq_false c18
                  clear c18
                  by_cases c28 : (t518.length : Int) < 1
                  · rw [if_pos c28] at H
                    have c28b0 : decide ((t518.length : Int) < 1) = true := decide_eq_true c28
                    have c28b1 : decide (t518.length < 1) = true := decide_eq_true (by omega)
                    clear c28
                    have H' := Aside0.mk H
                    clear H
                    obtain ⟨Ao29, co29, eo29⟩ := Kd.R_slice HO_5.out
                    subst eo29
                    go_wp2
                    go_meet
                    case rel => exact ⟨_, (true), (by first | rfl | (simp; done) | (simp only [i64_w, i32_w]; first | done | rfl | (simp; done)) | (simp [*]; done)), H', ⟨by have := HJ3.out; first | omega | exact Nat.le_refl _⟩, ⟨by (with_reducible repeat (first | apply Kd.R_alloc | apply Kd.R_drewN | apply Kd.R_drew)); exact HO_5.out⟩, ⟨by repeat (first | (with_reducible first | exact HB.out | apply below_alloc | apply pw_below_drewN | apply below_drew1) | exact HB.out)⟩⟩
                  · rw [if_neg c28] at H
                    have c28b0 : decide ((t518.length : Int) < 1) = false := decide_eq_false c28
                    have c28b1 : decide (t518.length < 1) = false := decide_eq_false (by omega)
                    clear c28
                    have H' := Aside0.mk H
                    clear H
                    obtain ⟨Ao30, co30, eo30⟩ := Kd.R_slice HO_5.out
                    subst eo30
                    go_wp2
                    go_meet
                    case rel => exact ⟨_, (decide ((t518.length : Int) > 8)), (by first | rfl | (simp; done) | (simp only [i64_w, i32_w]; first | done | rfl | (simp; done)) | (simp [*]; done)), H', ⟨by have := HJ3.out; first | omega | exact Nat.le_refl _⟩, ⟨by (with_reducible repeat (first | apply Kd.R_alloc | apply Kd.R_drewN | apply Kd.R_drew)); exact HO_5.out⟩, ⟨by repeat (first | (with_reducible first | exact HB.out | apply below_alloc | apply pw_below_drewN | apply below_drew1) | exact HB.out)⟩⟩
              · rw [if_neg c17] at H
                have c17b0 : ((t518.length : Int) == 1) = false := beq_eq_false_iff_ne.mpr c17
                have c17b1 : ((t518.length : Int) != 1) = true := bne_iff_ne.mpr c17
                have H' := Aside0.mk H
                clear H
                obtain ⟨Ao31, co31, eo31⟩ := Kd.R_slice HO_5.out
                subst eo31
                go_wp2
                go_meet
                case rel => exact ⟨_, (true), (by first | rfl | (simp; done) | (simp only [i64_w, i32_w]; first | done | rfl | (simp; done)) | (simp [*]; done)), H', ⟨by have := HJ3.out; first | omega | exact Nat.le_refl _⟩, ⟨by (with_reducible repeat (first | apply Kd.R_alloc | apply Kd.R_drewN | apply Kd.R_drew)); exact HO_5.out⟩, ⟨by repeat (first | (with_reducible first | exact HB.out | apply below_alloc | apply pw_below_drewN | apply below_drew1) | exact HB.out)⟩⟩
            · rw [if_neg c16] at H
              have c16b0 : decide (a1 < 2048) = false := decide_eq_false c16
              clear c16
              by_cases c32 : a1 ≥ (-2147483648)
              · rw [if_pos c32] at H
                have c32b0 : decide ((-2147483648) ≤ a1) = true := decide_eq_true c32
                clear c32
                by_cases c33 : a1 < 2147483648
                · rw [if_pos c33] at H
                  have c33b0 : decide (a1 < 2147483648) = true := decide_eq_true c33
                  clear c33
                  by_cases c34 : (t518.length : Int) > 2
                  · rw [if_pos c34] at H
                    have c34b0 : decide (2 < (t518.length : Int)) = true := decide_eq_true c34
                    have c34b1 : decide (2 < t518.length) = true := decide_eq_true (by omega)
                    clear c34
                    have H' := Aside0.mk H
                    clear H
                    obtain ⟨Ao35, co35, eo35⟩ := Kd.R_slice HO_5.out
                    subst eo35
                    go_wp2
                    go_meet
                    case rel => exact ⟨_, (true), (by first | rfl | (simp; done) | (simp only [i64_w, i32_w]; first | done | rfl | (simp; done)) | (simp [*]; done)), H', ⟨by have := HJ3.out; first | omega | exact Nat.le_refl _⟩, ⟨by (with_reducible repeat (first | apply Kd.R_alloc | apply Kd.R_drewN | apply Kd.R_drew)); exact HO_5.out⟩, ⟨by repeat (first | (with_reducible first | exact HB.out | apply below_alloc | apply pw_below_drewN | apply below_drew1) | exact HB.out)⟩⟩
                  · rw [if_neg c34] at H
                    have c34b0 : decide (2 < (t518.length : Int)) = false := decide_eq_false c34
                    have c34b1 : decide (2 < t518.length) = false := decide_eq_false (by omega)
                    clear c34
                    by_cases c36 : (t518.length : Int) < 1
                    · rw [if_pos c36] at H
                      have c36b0 : decide ((t518.length : Int) < 1) = true := decide_eq_true c36
                      have c36b1 : decide (t518.length < 1) = true := decide_eq_true (by omega)
                      clear c36
                      have H' := Aside0.mk H
                      clear H
                      obtain ⟨Ao37, co37, eo37⟩ := Kd.R_slice HO_5.out
                      subst eo37
                      go_wp2
                      go_meet
                      case rel => exact ⟨_, (true), (by first | rfl | (simp; done) | (simp only [i64_w, i32_w]; first | done | rfl | (simp; done)) | (simp [*]; done)), H', ⟨by have := HJ3.out; first | omega | exact Nat.le_refl _⟩, ⟨by (with_reducible repeat (first | apply Kd.R_alloc | apply Kd.R_drewN | apply Kd.R_drew)); exact HO_5.out⟩, ⟨by repeat (first | (with_reducible first | exact HB.out | apply below_alloc | apply pw_below_drewN | apply below_drew1) | exact HB.out)⟩⟩
                    · rw [if_neg c36] at H
                      have c36b0 : decide ((t518.length : Int) < 1) = false := decide_eq_false c36
                      have c36b1 : decide (t518.length < 1) = false := decide_eq_false (by omega)
                      clear c36
                      have H' := Aside0.mk H
                      clear H
                      obtain ⟨Ao38, co38, eo38⟩ := Kd.R_slice HO_5.out
                      subst eo38
                      go_wp2
                      go_meet
                      case rel => exact ⟨_, (decide ((t518.length : Int) > 8)), (by first | rfl | (simp; done) | (simp only [i64_w, i32_w]; first | done | rfl | (simp; done)) | (simp [*]; done)), H', ⟨by have := HJ3.out; first | omega | exact Nat.le_refl _⟩, ⟨by (with_reducible repeat (first | apply Kd.R_alloc | apply Kd.R_drewN | apply Kd.R_drew)); exact HO_5.out⟩, ⟨by repeat (first | (with_reducible first | exact HB.out | apply below_alloc | apply pw_below_drewN | apply below_drew1) | exact HB.out)⟩⟩
                · rw [if_neg c33] at H
                  have c33b0 : decide (a1 < 2147483648) = false := decide_eq_false c33
                  clear c33
                  by_cases c39 : (t518.length : Int) < 1
                  · rw [if_pos c39] at H
                    have c39b0 : decide ((t518.length : Int) < 1) = true := decide_eq_true c39
                    have c39b1 : decide (t518.length < 1) = true := decide_eq_true (by omega)
                    clear c39
                    have H' := Aside0.mk H
                    clear H
                    obtain ⟨Ao40, co40, eo40⟩ := Kd.R_slice HO_5.out
                    subst eo40
                    go_wp2
                    go_meet
                    case rel => exact ⟨_, (true), (by first | rfl | (simp; done) | (simp only [i64_w, i32_w]; first | done | rfl | (simp; done)) | (simp [*]; done)), H', ⟨by have := HJ3.out; first | omega | exact Nat.le_refl _⟩, ⟨by (with_reducible repeat (first | apply Kd.R_alloc | apply Kd.R_drewN | apply Kd.R_drew)); exact HO_5.out⟩, ⟨by repeat (first | (with_reducible first | exact HB.out | apply below_alloc | apply pw_below_drewN | apply below_drew1) | exact HB.out)⟩⟩
                  · rw [if_neg c39] at H
                    have c39b0 : decide ((t518.length : Int) < 1) = false := decide_eq_false c39
                    have c39b1 : decide (t518.length < 1) = false := decide_eq_false (by omega)
                    clear c39
                    have H' := Aside0.mk H
                    clear H
                    obtain ⟨Ao41, co41, eo41⟩ := Kd.R_slice HO_5.out
                    subst eo41
                    go_wp2
                    go_meet
                    case rel => exact ⟨_, (decide ((t518.length : Int) > 8)), (by first | rfl | (simp; done) | (simp only [i64_w, i32_w]; first | done | rfl | (simp; done)) | (simp [*]; done)), H', ⟨by have := HJ3.out; first | omega | exact Nat.le_refl _⟩, ⟨by (with_reducible repeat (first | apply Kd.R_alloc | apply Kd.R_drewN | apply Kd.R_drew)); exact HO_5.out⟩, ⟨by repeat (first | (with_reducible first | exact HB.out | apply below_alloc | apply pw_below_drewN | apply below_drew1) | exact HB.out)⟩⟩
              · rw [if_neg c32] at H
                have c32b0 : decide ((-2147483648) ≤ a1) = false := decide_eq_false c32
                clear c32
                by_cases c42 : (t518.length : Int) < 1
                · rw [if_pos c42] at H
                  have c42b0 : decide ((t518.length : Int) < 1) = true := decide_eq_true c42
                  have c42b1 : decide (t518.length < 1) = true := decide_eq_true (by omega)
                  clear c42
                  have H' := Aside0.mk H
                  clear H
                  obtain ⟨Ao43, co43, eo43⟩ := Kd.R_slice HO_5.out
                  subst eo43
                  go_wp2
                  go_meet
                  case rel => exact ⟨_, (true), (by first | rfl | (simp; done) | (simp only [i64_w, i32_w]; first | done | rfl | (simp; done)) | (simp [*]; done)), H', ⟨by have := HJ3.out; first | omega | exact Nat.le_refl _⟩, ⟨by (with_reducible repeat (first | apply Kd.R_alloc | apply Kd.R_drewN | apply Kd.R_drew)); exact HO_5.out⟩, ⟨by repeat (first | (with_reducible first | exact HB.out | apply below_alloc | apply pw_below_drewN | apply below_drew1) | exact HB.out)⟩⟩
                · rw [if_neg c42] at H
                  have c42b0 : decide ((t518.length : Int) < 1) = false := decide_eq_false c42
                  have c42b1 : decide (t518.length < 1) = false := decide_eq_false (by omega)
                  clear c42
                  have H' := Aside0.mk H
                  clear H
                  obtain ⟨Ao44, co44, eo44⟩ := Kd.R_slice HO_5.out
                  subst eo44
                  go_wp2
                  go_meet
                  case rel => exact ⟨_, (decide ((t518.length : Int) > 8)), (by first | rfl | (simp; done) | (simp only [i64_w, i32_w]; first | done | rfl | (simp; done)) | (simp [*]; done)), H', ⟨by have := HJ3.out; first | omega | exact Nat.le_refl _⟩, ⟨by (with_reducible repeat (first | apply Kd.R_alloc | apply Kd.R_drewN | apply Kd.R_drew)); exact HO_5.out⟩, ⟨by repeat (first | (with_reducible first | exact HB.out | apply below_alloc | apply pw_below_drewN | apply below_drew1) | exact HB.out)⟩⟩
          · rw [if_neg c15] at H
            have c15b0 : decide ((-2048) ≤ a1) = false := decide_eq_false c15
            clear c15
            (first | rw [c15b0] | (simp only [i64_w, i32_w]; rw [c15b0]) | rw [c15b1] | skip)
            by_cases c45 : a1 ≥ (-2147483648)
            · rw [if_pos c45] at H
              have c45b0 : decide ((-2147483648) ≤ a1) = true := decide_eq_true c45
              clear c45
              by_cases c46 : a1 < 2147483648
              · rw [if_pos c46] at H
                have c46b0 : decide (a1 < 2147483648) = true := decide_eq_true c46
                clear c46
                by_cases c47 : (t518.length : Int) > 2
                · rw [if_pos c47] at H
                  have c47b0 : decide (2 < (t518.length : Int)) = true := decide_eq_true c47
                  have c47b1 : decide (2 < t518.length) = true := decide_eq_true (by omega)
                  clear c47
                  have H' := Aside0.mk H
                  clear H
                  obtain ⟨Ao48, co48, eo48⟩ := Kd.R_slice HO_5.out
                  subst eo48
                  go_wp2
                  go_meet
                  case rel => exact ⟨_, (true), (by first | rfl | (simp; done) | (simp only [i64_w, i32_w]; first | done | rfl | (simp; done)) | (simp [*]; done)), H', ⟨by have := HJ3.out; first | omega | exact Nat.le_refl _⟩, ⟨by (with_reducible repeat (first | apply Kd.R_alloc | apply Kd.R_drewN | apply Kd.R_drew)); exact HO_5.out⟩, ⟨by repeat (first | (with_reducible first | exact HB.out | apply below_alloc | apply pw_below_drewN | apply below_drew1) | exact HB.out)⟩⟩
                · rw [if_neg c47] at H
                  have c47b0 : decide (2 < (t518.length : Int)) = false := decide_eq_false c47
                  have c47b1 : decide (2 < t518.length) = false := decide_eq_false (by omega)
                  clear c47
                  by_cases c49 : (t518.length : Int) < 1
                  · rw [if_pos c49] at H
                    have c49b0 : decide ((t518.length : Int) < 1) = true := decide_eq_true c49
                    have c49b1 : decide (t518.length < 1) = true := decide_eq_true (by omega)
                    clear c49
                    have H' := Aside0.mk H
                    clear H
                    obtain ⟨Ao50, co50, eo50⟩ := Kd.R_slice HO_5.out
                    subst eo50
                    go_wp2
                    go_meet
                    case rel => exact ⟨_, (true), (by first | rfl | (simp; done) | (simp only [i64_w, i32_w]; first | done | rfl | (simp; done)) | (simp [*]; done)), H', ⟨by have := HJ3.out; first | omega | exact Nat.le_refl _⟩, ⟨by (with_reducible repeat (first | apply Kd.R_alloc | apply Kd.R_drewN | apply Kd.R_drew)); exact HO_5.out⟩, ⟨by repeat (first | (with_reducible first | exact HB.out | apply below_alloc | apply pw_below_drewN | apply below_drew1) | exact HB.out)⟩⟩
                  · rw [if_neg c49] at H
                    have c49b0 : decide ((t518.length : Int) < 1) = false := decide_eq_false c49
                    have c49b1 : decide (t518.length < 1) = false := decide_eq_false (by omega)
                    clear c49
                    have H' := Aside0.mk H
                    clear H
                    obtain ⟨Ao51, co51, eo51⟩ := Kd.R_slice HO_5.out
                    subst eo51
                    go_wp2
                    go_meet
                    case rel => exact ⟨_, (decide ((t518.length : Int) > 8)), (by first | rfl | (simp; done) | (simp only [i64_w, i32_w]; first | done | rfl | (simp; done)) | (simp [*]; done)), H', ⟨by have := HJ3.out; first | omega | exact Nat.le_refl _⟩, ⟨by (with_reducible repeat (first | apply Kd.R_alloc | apply Kd.R_drewN | apply Kd.R_drew)); exact HO_5.out⟩, ⟨by repeat (first | (with_reducible first | exact HB.out | apply below_alloc | apply pw_below_drewN | apply below_drew1) | exact HB.out)⟩⟩
              · rw [if_neg c46] at H
                have c46b0 : decide (a1 < 2147483648) = false := decide_eq_false c46
                clear c46
                by_cases c52 : (t518.length : Int) < 1
                · rw [if_pos c52] at H
                  have c52b0 : decide ((t518.length : Int) < 1) = true := decide_eq_true c52
                  have c52b1 : decide (t518.length < 1) = true := decide_eq_true (by omega)
                  clear c52
                  have H' := Aside0.mk H
                  clear H
                  obtain ⟨Ao53, co53, eo53⟩ := Kd.R_slice HO_5.out
                  subst eo53
                  go_wp2
                  go_meet
                  case rel => exact ⟨_, (true), (by first | rfl | (simp; done) | (simp only [i64_w, i32_w]; first | done | rfl | (simp; done)) | (simp [*]; done)), H', ⟨by have := HJ3.out; first | omega | exact Nat.le_refl _⟩, ⟨by (with_reducible repeat (first | apply Kd.R_alloc | apply Kd.R_drewN | apply Kd.R_drew)); exact HO_5.out⟩, ⟨by repeat (first | (with_reducible first | exact HB.out | apply below_alloc | apply pw_below_drewN | apply below_drew1) | exact HB.out)⟩⟩
                · rw [if_neg c52] at H
                  have c52b0 : decide ((t518.length : Int) < 1) = false := decide_eq_false c52
                  have c52b1 : decide (t518.length < 1) = false := decide_eq_false (by omega)
                  clear c52
                  have H' := Aside0.mk H
                  clear H
                  obtain ⟨Ao54, co54, eo54⟩ := Kd.R_slice HO_5.out
                  subst eo54
                  go_wp2
                  go_meet
                  case rel => exact ⟨_, (decide ((t518.length : Int) > 8)), (by first | rfl | (simp; done) | (simp only [i64_w, i32_w]; first | done | rfl | (simp; done)) | (simp [*]; done)), H', ⟨by have := HJ3.out; first | omega | exact Nat.le_refl _⟩, ⟨by (with_reducible repeat (first | apply Kd.R_alloc | apply Kd.R_drewN | apply Kd.R_drew)); exact HO_5.out⟩, ⟨by repeat (first | (with_reducible first | exact HB.out | apply below_alloc | apply pw_below_drewN | apply below_drew1) | exact HB.out)⟩⟩
            · rw [if_neg c45] at H
              have c45b0 : decide ((-2147483648) ≤ a1) = false := decide_eq_false c45
              clear c45
              by_cases c55 : (t518.length : Int) < 1
              · rw [if_pos c55] at H
                have c55b0 : decide ((t518.length : Int) < 1) = true := decide_eq_true c55
                have c55b1 : decide (t518.length < 1) = true := decide_eq_true (by omega)
                clear c55
                have H' := Aside0.mk H
                clear H
                obtain ⟨Ao56, co56, eo56⟩ := Kd.R_slice HO_5.out
                subst eo56
                go_wp2
                go_meet
                case rel => exact ⟨_, (true), (by first | rfl | (simp; done) | (simp only [i64_w, i32_w]; first | done | rfl | (simp; done)) | (simp [*]; done)), H', ⟨by have := HJ3.out; first | omega | exact Nat.le_refl _⟩, ⟨by (with_reducible repeat (first | apply Kd.R_alloc | apply Kd.R_drewN | apply Kd.R_drew)); exact HO_5.out⟩, ⟨by repeat (first | (with_reducible first | exact HB.out | apply below_alloc | apply pw_below_drewN | apply below_drew1) | exact HB.out)⟩⟩
              · rw [if_neg c55] at H
                have c55b0 : decide ((t518.length : Int) < 1) = false := decide_eq_false c55
                have c55b1 : decide (t518.length < 1) = false := decide_eq_false (by omega)
                clear c55
                have H' := Aside0.mk H
                clear H
                obtain ⟨Ao57, co57, eo57⟩ := Kd.R_slice HO_5.out
                subst eo57
                go_wp2
                go_meet
                case rel => exact ⟨_, (decide ((t518.length : Int) > 8)), (by first | rfl | (simp; done) | (simp only [i64_w, i32_w]; first | done | rfl | (simp; done)) | (simp [*]; done)), H', ⟨by have := HJ3.out; first | omega | exact Nat.le_refl _⟩, ⟨by (with_reducible repeat (first | apply Kd.R_alloc | apply Kd.R_drewN | apply Kd.R_drew)); exact HO_5.out⟩, ⟨by repeat (first | (with_reducible first | exact HB.out | apply below_alloc | apply pw_below_drewN | apply below_drew1) | exact HB.out)⟩⟩
        case rest =>
          clear HC14
          try clear c1
          try clear c2
          try clear p2
          try clear c3
          try clear c4
          try clear c5
          try clear c6
          try clear c6b0
          try clear c6b1
          try clear c9
          try clear c11
          try clear c13
          try clear c15
          try clear c15b0
          try clear c16
          try clear c16b0
          try clear c17
          try clear c17b0
          try clear c17b1
          try clear c18
          try clear c18b0
          try clear c19
          try clear c19b0
          try clear c20
          try clear c20b0
          try clear c20b1
          try clear c22
          try clear c22b0
          try clear c22b1
          try clear c25
          try clear c25b0
          try clear c25b1
          try clear c28
          try clear c28b0
          try clear c28b1
          try clear c32
          try clear c32b0
          try clear c33
          try clear c33b0
          try clear c34
          try clear c34b0
          try clear c34b1
          try clear c36
          try clear c36b0
          try clear c36b1
          try clear c39
          try clear c39b0
          try clear c39b1
          try clear c42
          try clear c42b0
          try clear c42b1
          try clear c45
          try clear c45b0
          try clear c46
          try clear c46b0
          try clear c47
          try clear c47b0
          try clear c47b1
          try clear c49
          try clear c49b0
          try clear c49b1
          try clear c52
          try clear c52b0
          try clear c52b1
          try clear c55
          try clear c55b0
          try clear c55b1
          try clear p2
          obtain ⟨kq, x59_13, rfl, HA, HJ13, HO_5, HB⟩ := hcut
          cases kq with
          | zero => exact absurd HA.out (by simp [quoinlaw18_LiShort.j1])
          | succ kj13 =>
            have H := HA.out
            clear HA
            simp only [quoinlaw18_LiShort.j1] at H
            by_cases c58 : x59_13 = true
            · subst c58
              have H1 : (none) = some r := by rw [if_pos rfl] at H; exact H
              clear H
              have H := H1
              clear H1
              exact absurd H (by simp)
            · replace c58 := Bool.eq_false_iff.mpr c58
              subst c58
              have H1 : (quoinlaw18_LiShort.l0 kj13 a0 t518 0) = some r := by rw [if_neg (show ¬ (false = true) by decide)] at H; exact H
              clear H
              have H := H1
              clear H1
              have H' := Aside0.mk H
              clear H
              go_wp2
              go_loopg [7] kj13 (fun kq v7 w' => ∃ (x7_3 : Int), v7 = .int .i64 x7_3 ∧ Aside0 (quoinlaw18_LiShort.l0 kq a0 t518 x7_3 = some r) ∧ Aside0 (kq ≤ kj13) ∧ Aside0 (Kd.R k33 33 w' w.heap.size (fun _ => True) v520 t518) ∧ Aside0 (Below w.heap.size w w'))
              case atStart => exact ⟨(0), (by first | rfl | (simp; done) | (simp only [i64_w, i32_w]; first | done | rfl | (simp; done)) | (simp [*]; done)), H', ⟨Nat.le_refl _⟩, ⟨by (with_reducible repeat (first | apply Kd.R_alloc | apply Kd.R_drewN | apply Kd.R_drew)); exact HO_5.out⟩, ⟨by repeat (first | (with_reducible first | exact HB.out | apply below_alloc | apply pw_below_drewN | apply below_drew1) | exact HB.out)⟩⟩
              case round =>
                clear H'
                try clear c1
                try clear c2
                try clear p2
                try clear c3
                try clear c4
                try clear c5
                try clear c6
                try clear c6b0
                try clear c6b1
                try clear c9
                try clear c11
                try clear c13
                try clear c15
                try clear c15b0
                try clear c16
                try clear c16b0
                try clear c17
                try clear c17b0
                try clear c17b1
                try clear c18
                try clear c18b0
                try clear c19
                try clear c19b0
                try clear c20
                try clear c20b0
                try clear c20b1
                try clear c22
                try clear c22b0
                try clear c22b1
                try clear c25
                try clear c25b0
                try clear c25b1
                try clear c28
                try clear c28b0
                try clear c28b1
                try clear c32
                try clear c32b0
                try clear c33
                try clear c33b0
                try clear c34
                try clear c34b0
                try clear c34b1
                try clear c36
                try clear c36b0
                try clear c36b1
                try clear c39
                try clear c39b0
                try clear c39b1
                try clear c42
                try clear c42b0
                try clear c42b1
                try clear c45
                try clear c45b0
                try clear c46
                try clear c46b0
                try clear c47
                try clear c47b0
                try clear c47b1
                try clear c49
                try clear c49b0
                try clear c49b1
                try clear c52
                try clear c52b0
                try clear c52b1
                try clear c55
                try clear c55b0
                try clear c55b1
                try clear c58
                try clear p2
                obtain ⟨x7_3, rfl, HA, HK3, HO_5, HB⟩ := hrel
                cases gk with
                | zero => exact absurd HA.out (by simp [quoinlaw18_LiShort.l0])
                | succ k3 =>
                  have H := HA.out
                  clear HA
                  simp only [quoinlaw18_LiShort.l0] at H
                  by_cases c59 : x7_3 < (t518.length : Int)
                  · rw [if_pos c59] at H
                    have c59b0 : decide (x7_3 < (t518.length : Int)) = true := decide_eq_true c59
                    clear c59
                    by_cases c60 : 0 ≤ x7_3
                    · rw [if_pos c60] at H
                      have c60b0 : decide (0 ≤ x7_3) = true := decide_eq_true c60
                      clear c60
                      replace H := Option.bind_eq_some_iff.mp H
                      obtain ⟨t525, A610, H⟩ := H
                      replace H : (if t525 = 0 then (if ((rd_T33 t518 x7_3).f1) = a0 then (if ((rd_T33 t518 x7_3).f2) = a0 then (if ((rd_T33 t518 x7_3).f3) = 0 then (quoinlaw18_LiShort.l0 k3 a0 t518 (wrap64 (x7_3 + 1))) else (none)) else (if ((rd_T33 t518 x7_3).f2) = 0 then (if ((rd_T33 t518 x7_3).f3) = 0 then (quoinlaw18_LiShort.l0 k3 a0 t518 (wrap64 (x7_3 + 1))) else (none)) else (none))) else (none)) else (none)) = some r := H
                      have A61 := Aside0.mk A610
                      clear A610
                      by_cases c62 : t525 = 0
                      · rw [if_pos c62] at H
                        have c62b0 : (t525 == 0) = true := beq_iff_eq.mpr c62
                        have c62b1 : (t525 != 0) = false := bne_eq_false_iff_eq.mpr c62
                        clear c62
                        by_cases c63 : ((rd_T33 t518 x7_3).f1) = a0
                        · rw [if_pos c63] at H
                          have c63b0 : (((rd_T33 t518 x7_3).f1) == a0) = true := beq_iff_eq.mpr c63
                          have c63b1 : (((rd_T33 t518 x7_3).f1) != a0) = false := bne_eq_false_iff_eq.mpr c63
                          clear c63
                          by_cases c64 : ((rd_T33 t518 x7_3).f2) = a0
                          · rw [if_pos c64] at H
                            have c64b0 : (((rd_T33 t518 x7_3).f2) == a0) = true := beq_iff_eq.mpr c64
                            have c64b1 : (((rd_T33 t518 x7_3).f2) != a0) = false := bne_eq_false_iff_eq.mpr c64
                            clear c64
                            by_cases c65 : ((rd_T33 t518 x7_3).f3) = 0
                            · rw [if_pos c65] at H
                              have c65b0 : (((rd_T33 t518 x7_3).f3) == 0) = true := beq_iff_eq.mpr c65
                              have c65b1 : (((rd_T33 t518 x7_3).f3) != 0) = false := bne_eq_false_iff_eq.mpr c65
                              clear c65
                              have H' := Aside0.mk H
                              clear H
                              obtain ⟨Ao66, co66, eo66⟩ := Kd.R_slice HO_5.out
                              subst eo66
                              have p524 : 0 ≤ (x7_3 : Int) := of_decide_eq_true (by first | (with_reducible assumption) | assumption)
                              have q524 : x7_3 < (t518.length : Int) := of_decide_eq_true (by first | (with_reducible assumption) | assumption)
                              obtain ⟨ad524, e524, hx524_0, hx524_1, hx524_2, hx524_3, hx524_4⟩ := at_T33 (Kd.R_reads' HO_5.out).2.2 x7_3 p524 q524
                              cases e524
                              replace p524 := eq_true p524
                              replace q524 := eq_true q524
                              go_wp2_with (first | ((with_reducible refine gate_callee (f := 28) rfl ?_); refine goesL_ (some 70) rfl rfl Tryd.func28 (by kernel_rfl) rfl #[.agg #[.int .u8 ((rd_T33 t518 x7_3).f0), .int .i64 ((rd_T33 t518 x7_3).f1), .int .i64 ((rd_T33 t518 x7_3).f2), .int .i64 ((rd_T33 t518 x7_3).f3), .int .i64 ((rd_T33 t518 x7_3).f4)]] rfl (by (try simp only [List.map_toArray, List.map_cons, List.map_nil]); first | done | rfl | (simp only [List.length_drop, List.length_take]; rfl)) ?_; (with_reducible refine (insn_Check.calls k3 ((rd_T33 t518 x7_3).f0) ((rd_T33 t518 x7_3).f1) ((rd_T33 t518 x7_3).f2) ((rd_T33 t518 x7_3).f3) ((rd_T33 t518 x7_3).f4) t525 _ A61.out).mono ?_); rintro e w67 ⟨rfl, hb⟩; refine ⟨_, rfl, ?_⟩; have n0_ := Aside0.mk (Kd.R_below (by (with_reducible repeat (first | apply Kd.R_alloc | apply Kd.R_drewN | apply Kd.R_drew)); exact HO_5.out) hb); have n1_ := Aside0.mk (below_step (by repeat (first | (with_reducible first | exact HB.out | apply below_alloc | apply pw_below_drewN | apply below_drew1) | exact HB.out)) hb); clear HO_5; clear HB; have HO_5 := n0_; have HB := n1_; clear n0_ n1_; (try clear hb); (try clear hb2); (try clear hk); (try clear hi); have p526 : 0 ≤ (x7_3 : Int) := of_decide_eq_true (by first | (with_reducible assumption) | assumption); have q526 : x7_3 < (t518.length : Int) := of_decide_eq_true (by first | (with_reducible assumption) | assumption); obtain ⟨ad526, e526, hx526_0, hx526_1, hx526_2, hx526_3, hx526_4⟩ := at_T33 (Kd.R_reads' HO_5.out).2.2 x7_3 p526 q526; obtain rfl : ad524 = ad526 := (by injection e526); replace p526 := eq_true p526; replace q526 := eq_true q526; have p527 : 0 ≤ (x7_3 : Int) := of_decide_eq_true (by first | (with_reducible assumption) | assumption); have q527 : x7_3 < (t518.length : Int) := of_decide_eq_true (by first | (with_reducible assumption) | assumption); obtain ⟨ad527, e527, hx527_0, hx527_1, hx527_2, hx527_3, hx527_4⟩ := at_T33 (Kd.R_reads' HO_5.out).2.2 x7_3 p527 q527; obtain rfl : ad524 = ad527 := (by injection e527); replace p527 := eq_true p527; replace q527 := eq_true q527; have p528 : 0 ≤ (x7_3 : Int) := of_decide_eq_true (by first | (with_reducible assumption) | assumption); have q528 : x7_3 < (t518.length : Int) := of_decide_eq_true (by first | (with_reducible assumption) | assumption); obtain ⟨ad528, e528, hx528_0, hx528_1, hx528_2, hx528_3, hx528_4⟩ := at_T33 (Kd.R_reads' HO_5.out).2.2 x7_3 p528 q528; obtain rfl : ad524 = ad528 := (by injection e528); replace p528 := eq_true p528; replace q528 := eq_true q528))
                              go_roundg k3
                              case measure => have := HJ3.out; have := HJ13.out; have := HK3.out; omega
                              case rel => exact ⟨(wrap64 (x7_3 + 1)), (by first | rfl | (simp; done) | (simp only [i64_w, i32_w]; first | done | rfl | (simp; done)) | (simp [*]; done)), H', ⟨by have := HJ3.out; have := HJ13.out; have := HK3.out; omega⟩, ⟨by (with_reducible repeat (first | apply Kd.R_alloc | apply Kd.R_drewN | apply Kd.R_drew)); exact HO_5.out⟩, ⟨by repeat (first | (with_reducible first | exact HB.out | apply below_alloc | apply pw_below_drewN | apply below_drew1) | exact HB.out)⟩⟩
                            · rw [if_neg c65] at H
                              exact absurd H (by simp)
                          · rw [if_neg c64] at H
                            have c64b0 : (((rd_T33 t518 x7_3).f2) == a0) = false := beq_eq_false_iff_ne.mpr c64
                            have c64b1 : (((rd_T33 t518 x7_3).f2) != a0) = true := bne_iff_ne.mpr c64
                            by_cases c68 : ((rd_T33 t518 x7_3).f2) = 0
                            · rw [if_pos c68] at H
                              have c68b0 : (((rd_T33 t518 x7_3).f2) == 0) = true := beq_iff_eq.mpr c68
                              have c68b1 : (((rd_T33 t518 x7_3).f2) != 0) = false := bne_eq_false_iff_eq.mpr c68
                              clear c68
                              by_cases c69 : ((rd_T33 t518 x7_3).f3) = 0
                              · rw [if_pos c69] at H
                                have c69b0 : (((rd_T33 t518 x7_3).f3) == 0) = true := beq_iff_eq.mpr c69
                                have c69b1 : (((rd_T33 t518 x7_3).f3) != 0) = false := bne_eq_false_iff_eq.mpr c69
                                clear c69
                                have H' := Aside0.mk H
                                clear H
                                obtain ⟨Ao70, co70, eo70⟩ := Kd.R_slice HO_5.out
                                subst eo70
                                have p524 : 0 ≤ (x7_3 : Int) := of_decide_eq_true (by first | (with_reducible assumption) | assumption)
                                have q524 : x7_3 < (t518.length : Int) := of_decide_eq_true (by first | (with_reducible assumption) | assumption)
                                obtain ⟨ad524, e524, hx524_0, hx524_1, hx524_2, hx524_3, hx524_4⟩ := at_T33 (Kd.R_reads' HO_5.out).2.2 x7_3 p524 q524
                                cases e524
                                replace p524 := eq_true p524
                                replace q524 := eq_true q524
                                go_wp2_with (first | ((with_reducible refine gate_callee (f := 28) rfl ?_); refine goesL_ (some 70) rfl rfl Tryd.func28 (by kernel_rfl) rfl #[.agg #[.int .u8 ((rd_T33 t518 x7_3).f0), .int .i64 ((rd_T33 t518 x7_3).f1), .int .i64 ((rd_T33 t518 x7_3).f2), .int .i64 ((rd_T33 t518 x7_3).f3), .int .i64 ((rd_T33 t518 x7_3).f4)]] rfl (by (try simp only [List.map_toArray, List.map_cons, List.map_nil]); first | done | rfl | (simp only [List.length_drop, List.length_take]; rfl)) ?_; (with_reducible refine (insn_Check.calls k3 ((rd_T33 t518 x7_3).f0) ((rd_T33 t518 x7_3).f1) ((rd_T33 t518 x7_3).f2) ((rd_T33 t518 x7_3).f3) ((rd_T33 t518 x7_3).f4) t525 _ A61.out).mono ?_); rintro e w71 ⟨rfl, hb⟩; refine ⟨_, rfl, ?_⟩; have n0_ := Aside0.mk (Kd.R_below (by (with_reducible repeat (first | apply Kd.R_alloc | apply Kd.R_drewN | apply Kd.R_drew)); exact HO_5.out) hb); have n1_ := Aside0.mk (below_step (by repeat (first | (with_reducible first | exact HB.out | apply below_alloc | apply pw_below_drewN | apply below_drew1) | exact HB.out)) hb); clear HO_5; clear HB; have HO_5 := n0_; have HB := n1_; clear n0_ n1_; (try clear hb); (try clear hb2); (try clear hk); (try clear hi); have p526 : 0 ≤ (x7_3 : Int) := of_decide_eq_true (by first | (with_reducible assumption) | assumption); have q526 : x7_3 < (t518.length : Int) := of_decide_eq_true (by first | (with_reducible assumption) | assumption); obtain ⟨ad526, e526, hx526_0, hx526_1, hx526_2, hx526_3, hx526_4⟩ := at_T33 (Kd.R_reads' HO_5.out).2.2 x7_3 p526 q526; obtain rfl : ad524 = ad526 := (by injection e526); replace p526 := eq_true p526; replace q526 := eq_true q526; have p527 : 0 ≤ (x7_3 : Int) := of_decide_eq_true (by first | (with_reducible assumption) | assumption); have q527 : x7_3 < (t518.length : Int) := of_decide_eq_true (by first | (with_reducible assumption) | assumption); obtain ⟨ad527, e527, hx527_0, hx527_1, hx527_2, hx527_3, hx527_4⟩ := at_T33 (Kd.R_reads' HO_5.out).2.2 x7_3 p527 q527; obtain rfl : ad524 = ad527 := (by injection e527); replace p527 := eq_true p527; replace q527 := eq_true q527; have p529 : 0 ≤ (x7_3 : Int) := of_decide_eq_true (by first | (with_reducible assumption) | assumption); have q529 : x7_3 < (t518.length : Int) := of_decide_eq_true (by first | (with_reducible assumption) | assumption); obtain ⟨ad529, e529, hx529_0, hx529_1, hx529_2, hx529_3, hx529_4⟩ := at_T33 (Kd.R_reads' HO_5.out).2.2 x7_3 p529 q529; obtain rfl : ad524 = ad529 := (by injection e529); replace p529 := eq_true p529; replace q529 := eq_true q529; have p530 : 0 ≤ (x7_3 : Int) := of_decide_eq_true (by first | (with_reducible assumption) | assumption); have q530 : x7_3 < (t518.length : Int) := of_decide_eq_true (by first | (with_reducible assumption) | assumption); obtain ⟨ad530, e530, hx530_0, hx530_1, hx530_2, hx530_3, hx530_4⟩ := at_T33 (Kd.R_reads' HO_5.out).2.2 x7_3 p530 q530; obtain rfl : ad524 = ad530 := (by injection e530); replace p530 := eq_true p530; replace q530 := eq_true q530))
                                go_roundg k3
                                case measure => have := HJ3.out; have := HJ13.out; have := HK3.out; omega
                                case rel => exact ⟨(wrap64 (x7_3 + 1)), (by first | rfl | (simp; done) | (simp only [i64_w, i32_w]; first | done | rfl | (simp; done)) | (simp [*]; done)), H', ⟨by have := HJ3.out; have := HJ13.out; have := HK3.out; omega⟩, ⟨by (with_reducible repeat (first | apply Kd.R_alloc | apply Kd.R_drewN | apply Kd.R_drew)); exact HO_5.out⟩, ⟨by repeat (first | (with_reducible first | exact HB.out | apply below_alloc | apply pw_below_drewN | apply below_drew1) | exact HB.out)⟩⟩
                              · rw [if_neg c69] at H
                                exact absurd H (by simp)
                            · rw [if_neg c68] at H
                              exact absurd H (by simp)
                        · rw [if_neg c63] at H
                          exact absurd H (by simp)
                      · rw [if_neg c62] at H
                        exact absurd H (by simp)
                    · rw [if_neg c60] at H
                      exact absurd H (by simp)
                  · rw [if_neg c59] at H
                    have c59b0 : decide (x7_3 < (t518.length : Int)) = false := decide_eq_false c59
                    clear c59
                    obtain rfl := Option.some.inj H
                    obtain ⟨Ao72, co72, eo72⟩ := Kd.R_slice HO_5.out
                    subst eo72
                    go_wp2
                    go_ret
                    exact ⟨by first | rfl | (simp [errW_none, errW_some] <;> rfl) | (simp [*, errW_none, errW_some] <;> rfl), by repeat (first | (with_reducible first | exact HB.out | apply below_alloc | apply pw_below_drewN | apply below_drew1) | exact HB.out)⟩

end Go.Proofs.YtpijiohiohiilaaDoor.D
