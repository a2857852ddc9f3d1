/- Walks and rows of the laws of quoin: each Lean function here tells just what the Go function of its name answers. Conditions: none but those that a row itself names. Written by a program of this session (wip/reprint.py) over the kit print, and turned by it. -/
import Derived.Test.YtpijiohiohiilaaDoorD0
import Derived.Test.YtpijiohiohiilaaDoorDLi
import Derived.Test.YtpijiohiohiilaaDoorDQuoinref18
import Derived.Test.YtpijiohiohiilaaDoorGLi
namespace Go.Proofs.YtpijiohiohiilaaDoor.D
open Go.RowKit Go.Proofs.YtpijiohiohiilaaDoorW.PrintWords Go.Proofs.YtpijiohiohiilaaDoorW.PrintLast Go.Proofs.YtpijiohiohiilaaDoorW.PrintMore
attribute [local go_sem] max2_int min2_int max_two min_two max_three min_three max_four min_four   -- for this text's walks alone
set_option linter.unusedVariables false
set_option linter.unusedSimpArgs false

/-! ### quoinlaw18_LiMakes: function 8 -/
def quoinlaw18_LiMakes.f (k : Nat) (a0 : Int) (a1 : Int) : Option (Bool) := (li_Parts.f a1).bind fun bt448 => ((quoinref18_Parts.f a1).bind fun bt450 => ((li_Steps.f k a0 a1).bind fun bt452 => ((quoinref18_Steps.f k a0 a1).bind fun bt456 => (if bt448.1 = bt450.1 then (if bt448.2 = bt450.2 then ((quoinref18_Same.f k bt452.1 bt456.1).bind fun t460 => (if t460 = true then (some (bt452.2 == bt456.2)) else (none))) else (none)) else (none)))))
theorem quoinlaw18_LiMakes.mono : ∀ a0 a1 k, LeO (quoinlaw18_LiMakes.f k a0 a1) (quoinlaw18_LiMakes.f (k + 1) a0 a1) := by
  intro a0 a1 k
  unfold quoinlaw18_LiMakes.f
  repeat' first
      | (with_reducible exact li_Steps.mono _ _ _)
      | (with_reducible exact quoinref18_Same.mono _ _ _)
      | (with_reducible exact quoinref18_Steps.mono _ _ _)
      | (with_reducible exact LeO.refl _)
      | (with_reducible exact LeO.none _)
      | (with_reducible refine LeO.ite ?_ ?_)
      | (with_reducible refine LeO.bind ?_ (fun _ => ?_))
      | exact li_Steps.mono _ _ _
      | exact quoinref18_Same.mono _ _ _
      | exact quoinref18_Steps.mono _ _ _
      | exact LeO.none _
      | refine LeO.ite ?_ ?_
      | refine LeO.bind ?_ (fun _ => ?_)
set_option maxHeartbeats 8000000 in
set_option maxRecDepth 100000 in
theorem quoinlaw18_LiMakes.calls (k : Nat) (a0 : Int) (a1 : Int) (r : Bool) (w : World) (hN : LaidN w) (h : quoinlaw18_LiMakes.f k a0 a1 = some r) :
    Calls Tryd.prog 8 #[.int .i64 a0, .int .i64 a1] w fun e w' => e = .returned (.bool r) ∧ Below w.heap.size w w' := by
  have HLN := Aside0.mk hN
  clear hN
  have HB := Aside0.mk (Below.refl w.heap.size w)
  have H : ((li_Parts.f a1).bind fun bt448 => ((quoinref18_Parts.f a1).bind fun bt450 => ((li_Steps.f k a0 a1).bind fun bt452 => ((quoinref18_Steps.f k a0 a1).bind fun bt456 => (if bt448.1 = bt450.1 then (if bt448.2 = bt450.2 then ((quoinref18_Same.f k bt452.1 bt456.1).bind fun t460 => (if t460 = true then (some (bt452.2 == bt456.2)) else (none))) else (none)) else (none)))))) = some r := h
  clear h
  replace H := Option.bind_eq_some_iff.mp H
  obtain ⟨⟨t448, t449⟩, A30, H⟩ := H
  replace H : ((quoinref18_Parts.f a1).bind fun bt450 => ((li_Steps.f k a0 a1).bind fun bt452 => ((quoinref18_Steps.f k a0 a1).bind fun bt456 => (if t448 = bt450.1 then (if t449 = bt450.2 then ((quoinref18_Same.f k bt452.1 bt456.1).bind fun t460 => (if t460 = true then (some (bt452.2 == bt456.2)) else (none))) else (none)) else (none))))) = some r := H
  have A3 := Aside0.mk A30
  clear A30
  replace H := Option.bind_eq_some_iff.mp H
  obtain ⟨⟨t450, t451⟩, A40, H⟩ := H
  replace H : ((li_Steps.f k a0 a1).bind fun bt452 => ((quoinref18_Steps.f k a0 a1).bind fun bt456 => (if t448 = t450 then (if t449 = t451 then ((quoinref18_Same.f k bt452.1 bt456.1).bind fun t460 => (if t460 = true then (some (bt452.2 == bt456.2)) else (none))) else (none)) else (none)))) = some r := H
  have A4 := Aside0.mk A40
  clear A40
  replace H := Option.bind_eq_some_iff.mp H
  obtain ⟨⟨t452, t453⟩, A50, H⟩ := H
  replace H : ((quoinref18_Steps.f k a0 a1).bind fun bt456 => (if t448 = t450 then (if t449 = t451 then ((quoinref18_Same.f k t452 bt456.1).bind fun t460 => (if t460 = true then (some (t453 == bt456.2)) else (none))) else (none)) else (none))) = some r := H
  have A5 := Aside0.mk A50
  clear A50
  replace H := Option.bind_eq_some_iff.mp H
  obtain ⟨⟨t456, t457⟩, A60, H⟩ := H
  replace H : (if t448 = t450 then (if t449 = t451 then ((quoinref18_Same.f k t452 t456).bind fun t460 => (if t460 = true then (some (t453 == t457)) else (none))) else (none)) else (none)) = some r := H
  have A6 := Aside0.mk A60
  clear A60
  by_cases c7 : t448 = t450
  · rw [if_pos c7] at H
    have c7b0 : (t448 == t450) = true := beq_iff_eq.mpr c7
    have c7b1 : (t448 != t450) = false := bne_eq_false_iff_eq.mpr c7
    clear c7
    by_cases c8 : t449 = t451
    · rw [if_pos c8] at H
      have c8b0 : (t449 == t451) = true := beq_iff_eq.mpr c8
      have c8b1 : (t449 != t451) = false := bne_eq_false_iff_eq.mpr c8
      clear c8
      replace H := Option.bind_eq_some_iff.mp H
      obtain ⟨t460, A90, H⟩ := H
      replace H : (if t460 = true then (some (t453 == t457)) else (none)) = some r := H
      have A9 := Aside0.mk A90
      clear A90
      by_cases c10 : t460 = true
      · subst c10
        have H1 : (some (t453 == t457)) = some r := by rw [if_pos rfl] at H; exact H
        clear H
        have H := H1
        clear H1
        obtain rfl := Option.some.inj H
        go_enter Tryd.func8, Tryd.ntmps8
        go_wp2_with (first | ((with_reducible refine gate_callee (f := 32) rfl ?_); refine goesL_ (some 15) rfl rfl Tryd.func32 (by kernel_rfl) rfl #[.int .i64 a1] rfl (by (try simp only [List.map_toArray, List.map_cons, List.map_nil]); first | done | rfl | (simp only [List.length_drop, List.length_take]; rfl)) ?_; (with_reducible refine (li_Parts.calls a1 t448 t449 _ A3.out).mono ?_); rintro e w' ⟨rfl, ⟨nd, rfl⟩⟩; refine ⟨_, rfl, ?_⟩) | ((with_reducible refine gate_callee (f := 35) rfl ?_); refine goesL_ (some 20) rfl rfl Tryd.func35 (by kernel_rfl) rfl #[.int .i64 a1] rfl (by (try simp only [List.map_toArray, List.map_cons, List.map_nil]); first | done | rfl | (simp only [List.length_drop, List.length_take]; rfl)) ?_; (with_reducible refine (quoinref18_Parts.calls a1 t450 t451 _ A4.out).mono ?_); rintro e w' ⟨rfl, ⟨nd, rfl⟩⟩; refine ⟨_, rfl, ?_⟩) | ((with_reducible refine gate_callee (f := 33) rfl ?_); refine goesL_ (some 26) rfl rfl Tryd.func33 (by kernel_rfl) rfl #[.int .i64 a0, .int .i64 a1] rfl (by (try simp only [List.map_toArray, List.map_cons, List.map_nil]); first | done | rfl | (simp only [List.length_drop, List.length_take]; rfl)) ?_; (with_reducible refine (li_Steps.calls k a0 a1 t452 t453 _ ?sideLN A5.out).mono ?_); (case sideLN => (repeat (first | exact HLN.out | (with_reducible refine LaidN.alloc ?_ _) | (with_reducible refine LaidN.drewN ?_ _) | (with_reducible refine LaidN.drew ?_) | (refine LaidN.below HLN.out ?_; repeat (first | (with_reducible first | exact HB.out | apply below_alloc | apply pw_below_drewN | apply below_drew1) | exact HB.out))))); rintro e w11 ⟨v454, rfl, ho0, hb⟩; refine ⟨_, rfl, ?_⟩; have n0_ := Aside0.mk (Kd.R_lower ho0 (below_size (by repeat (first | (with_reducible first | exact HB.out | apply below_alloc | apply pw_below_drewN | apply below_drew1) | exact HB.out)))); have n1_ := Aside0.mk (below_step (by repeat (first | (with_reducible first | exact HB.out | apply below_alloc | apply pw_below_drewN | apply below_drew1) | exact HB.out)) hb); clear HB; have HO455 := n0_; have HB := n1_; clear n0_ n1_; (try clear hb); (try clear hb2); (try clear hk); (try clear hi); (try clear ho0)) | ((with_reducible refine gate_callee (f := 36) rfl ?_); refine goesL_ (some 32) rfl rfl Tryd.func36 (by kernel_rfl) rfl #[.int .i64 a0, .int .i64 a1] rfl (by (try simp only [List.map_toArray, List.map_cons, List.map_nil]); first | done | rfl | (simp only [List.length_drop, List.length_take]; rfl)) ?_; (with_reducible refine (quoinref18_Steps.calls k a0 a1 t456 t457 _ A6.out).mono ?_); rintro e w12 ⟨v458, rfl, ho0, hb⟩; refine ⟨_, rfl, ?_⟩; have n0_ := Aside0.mk (Kd.R_elder' (by (with_reducible repeat (first | apply Kd.R_alloc | apply Kd.R_drewN | apply Kd.R_drew)); exact HO455.out) (Kd.R_base ho0) hb); have n1_ := Aside0.mk (Kd.R_lower (Kd.R_new' ho0 (Kd.R_lt (by (with_reducible repeat (first | apply Kd.R_alloc | apply Kd.R_drewN | apply Kd.R_drew)); exact HO455.out))) (below_size (by repeat (first | (with_reducible first | exact HB.out | apply below_alloc | apply pw_below_drewN | apply below_drew1) | exact HB.out)))); have n2_ := Aside0.mk (below_step (by repeat (first | (with_reducible first | exact HB.out | apply below_alloc | apply pw_below_drewN | apply below_drew1) | exact HB.out)) hb); clear HO455; clear HB; have HO455 := n0_; have HO459 := n1_; have HB := n2_; clear n0_ n1_ n2_; (try clear hb); (try clear hb2); (try clear hk); (try clear hi); (try clear ho0); obtain ⟨Ao13, co13, eo13⟩ := Kd.R_slice HO455.out; subst eo13; obtain ⟨Ao14, co14, eo14⟩ := Kd.R_slice HO459.out; subst eo14) | (go_at_call 37; (with_reducible refine (quoinref18_Same.calls k _ _ t452 _ _ t456 true _ ?side1 ?side2 ?side3 ?side4 A9.out).mono ?_); (case side1 => repeat (first | exact (Kd.R_reads' HO455.out).2.2 | (with_reducible refine Kd.C_alloc ?_ _) | (with_reducible refine Kd.C_drewN ?_ _) | (with_reducible refine Kd.C_drew ?_))); (case side2 => exact (Kd.R_reads' HO455.out).2.1); (case side3 => repeat (first | exact (Kd.R_reads' HO459.out).2.2 | (with_reducible refine Kd.C_alloc ?_ _) | (with_reducible refine Kd.C_drewN ?_ _) | (with_reducible refine Kd.C_drew ?_))); (case side4 => exact (Kd.R_reads' HO459.out).2.1); rintro e w' ⟨rfl, ⟨nd, rfl⟩⟩))
        go_ret
        exact ⟨by first | rfl | (simp [errW_none, errW_some] <;> rfl) | (simp [*, errW_none, errW_some] <;> rfl), by repeat (first | (with_reducible first | exact HB.out | apply below_alloc | apply pw_below_drewN | apply below_drew1) | exact HB.out)⟩
      · replace c10 := Bool.eq_false_iff.mpr c10
        subst c10
        have H1 : (none) = some r := by rw [if_neg (show ¬ (false = true) by decide)] at H; exact H
        clear H
        have H := H1
        clear H1
        exact absurd H (by simp)
    · rw [if_neg c8] at H
      exact absurd H (by simp)
  · rw [if_neg c7] at H
    exact absurd H (by simp)

end Go.Proofs.YtpijiohiohiilaaDoor.D
