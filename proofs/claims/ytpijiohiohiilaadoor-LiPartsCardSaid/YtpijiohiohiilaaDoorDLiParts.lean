/- Walks and rows of the laws of quoin: each Lean function here tells just what the Go function of its name answers. Conditions: none but those that a row itself names. Written by a program of this session (wip/reprint.py) over the kit print, and turned by it. -/
import Derived.Test.YtpijiohiohiilaaDoorD0
import Derived.Test.YtpijiohiohiilaaDoorDLi
import Derived.Test.YtpijiohiohiilaaDoorDQuoinlaw18
namespace Go.Proofs.YtpijiohiohiilaaDoor.D
open Go.RowKit Go.Proofs.YtpijiohiohiilaaDoorW.PrintWords Go.Proofs.YtpijiohiohiilaaDoorW.PrintLast Go.Proofs.YtpijiohiohiilaaDoorW.PrintMore
attribute [local go_sem] max2_int min2_int max_two min_two max_three min_three max_four min_four   -- for this text's walks alone
set_option linter.unusedVariables false
set_option linter.unusedSimpArgs false

/-! ### quoinlaw18_LiParts: function 9 -/
def quoinlaw18_LiParts.f (k : Nat) (a0 : Int) : Option (Bool) := (li_Parts.f a0).bind fun bt461 => ((quoinlaw18_alive.f k).bind fun t463 => (if t463 = true then (if bt461.2 ≥ (-2048) then (if bt461.2 ≤ 2047 then (if bt461.1 ≥ (-2251799813685248) then (if bt461.1 ≤ 2251799813685248 then (some ((IntKind.u64.wrap ((IntKind.u64.wrap ((IntKind.u64.wrap (bt461.1)) * 4096)) + (IntKind.u64.wrap (bt461.2)))) == (IntKind.u64.wrap (a0)))) else (none)) else (none)) else (none)) else (none)) else (none)))
theorem quoinlaw18_LiParts.mono : ∀ a0 k, LeO (quoinlaw18_LiParts.f k a0) (quoinlaw18_LiParts.f (k + 1) a0) := by
  intro a0 k
  unfold quoinlaw18_LiParts.f
  repeat' first
      | (with_reducible exact quoinlaw18_alive.mono _)
      | (with_reducible exact LeO.refl _)
      | (with_reducible exact LeO.none _)
      | (with_reducible refine LeO.ite ?_ ?_)
      | (with_reducible refine LeO.bind ?_ (fun _ => ?_))
      | exact quoinlaw18_alive.mono _
      | exact LeO.none _
      | refine LeO.ite ?_ ?_
      | refine LeO.bind ?_ (fun _ => ?_)
set_option maxHeartbeats 8000000 in
set_option maxRecDepth 100000 in
theorem quoinlaw18_LiParts.calls (k : Nat) (a0 : Int) (r : Bool) (w : World) (hN : LaidN w) (h : quoinlaw18_LiParts.f k a0 = some r) :
    Calls Tryd.prog 9 #[.int .i64 a0] w fun e w' => e = .returned (.bool r) ∧ Below w.heap.size w w' := by
  have HLN := Aside0.mk hN
  clear hN
  have HB := Aside0.mk (Below.refl w.heap.size w)
  have H : ((li_Parts.f a0).bind fun bt461 => ((quoinlaw18_alive.f k).bind fun t463 => (if t463 = true then (if bt461.2 ≥ (-2048) then (if bt461.2 ≤ 2047 then (if bt461.1 ≥ (-2251799813685248) then (if bt461.1 ≤ 2251799813685248 then (some ((IntKind.u64.wrap ((IntKind.u64.wrap ((IntKind.u64.wrap (bt461.1)) * 4096)) + (IntKind.u64.wrap (bt461.2)))) == (IntKind.u64.wrap (a0)))) else (none)) else (none)) else (none)) else (none)) else (none)))) = some r := h
  clear h
  replace H := Option.bind_eq_some_iff.mp H
  obtain ⟨⟨t461, t462⟩, A20, H⟩ := H
  replace H : ((quoinlaw18_alive.f k).bind fun t463 => (if t463 = true then (if t462 ≥ (-2048) then (if t462 ≤ 2047 then (if t461 ≥ (-2251799813685248) then (if t461 ≤ 2251799813685248 then (some ((IntKind.u64.wrap ((IntKind.u64.wrap ((IntKind.u64.wrap (t461)) * 4096)) + (IntKind.u64.wrap (t462)))) == (IntKind.u64.wrap (a0)))) else (none)) else (none)) else (none)) else (none)) else (none))) = some r := H
  have A2 := Aside0.mk A20
  clear A20
  replace H := Option.bind_eq_some_iff.mp H
  obtain ⟨t463, A30, H⟩ := H
  replace H : (if t463 = true then (if t462 ≥ (-2048) then (if t462 ≤ 2047 then (if t461 ≥ (-2251799813685248) then (if t461 ≤ 2251799813685248 then (some ((IntKind.u64.wrap ((IntKind.u64.wrap ((IntKind.u64.wrap (t461)) * 4096)) + (IntKind.u64.wrap (t462)))) == (IntKind.u64.wrap (a0)))) else (none)) else (none)) else (none)) else (none)) else (none)) = some r := H
  have A3 := Aside0.mk A30
  clear A30
  by_cases c4 : t463 = true
  · subst c4
    have H1 : (if t462 ≥ (-2048) then (if t462 ≤ 2047 then (if t461 ≥ (-2251799813685248) then (if t461 ≤ 2251799813685248 then (some ((IntKind.u64.wrap ((IntKind.u64.wrap ((IntKind.u64.wrap (t461)) * 4096)) + (IntKind.u64.wrap (t462)))) == (IntKind.u64.wrap (a0)))) else (none)) else (none)) else (none)) else (none)) = some r := by rw [if_pos rfl] at H; exact H
    clear H
    have H := H1
    clear H1
    by_cases c5 : t462 ≥ (-2048)
    · rw [if_pos c5] at H
      have c5b0 : decide ((-2048) ≤ t462) = true := decide_eq_true c5
      clear c5
      by_cases c6 : t462 ≤ 2047
      · rw [if_pos c6] at H
        have c6b0 : decide (t462 ≤ 2047) = true := decide_eq_true c6
        clear c6
        by_cases c7 : t461 ≥ (-2251799813685248)
        · rw [if_pos c7] at H
          have c7b0 : decide ((-2251799813685248) ≤ t461) = true := decide_eq_true c7
          clear c7
          by_cases c8 : t461 ≤ 2251799813685248
          · rw [if_pos c8] at H
            have c8b0 : decide (t461 ≤ 2251799813685248) = true := decide_eq_true c8
            clear c8
            obtain rfl := Option.some.inj H
            go_enter Tryd.func9, Tryd.ntmps9
            go_wp2_with (first | ((with_reducible refine gate_callee (f := 32) rfl ?_); refine goesL_ (some 7) rfl rfl Tryd.func32 (by kernel_rfl) rfl #[.int .i64 a0] rfl (by (try simp only [List.map_toArray, List.map_cons, List.map_nil]); first | done | rfl | (simp only [List.length_drop, List.length_take]; rfl)) ?_; (with_reducible refine (li_Parts.calls a0 t461 t462 _ A2.out).mono ?_); rintro e w' ⟨rfl, ⟨nd, rfl⟩⟩; refine ⟨_, rfl, ?_⟩) | ((with_reducible refine gate_callee (f := 34) rfl ?_); refine goesL_ (some 10) rfl rfl Tryd.func34 (by kernel_rfl) rfl #[] rfl (by (try simp only [List.map_toArray, List.map_cons, List.map_nil]); first | done | rfl | (simp only [List.length_drop, List.length_take]; rfl)) ?_; (with_reducible refine (quoinlaw18_alive.calls k  true _ ?sideLN A3.out).mono ?_); (case sideLN => (repeat (first | exact HLN.out | (with_reducible refine LaidN.alloc ?_ _) | (with_reducible refine LaidN.drewN ?_ _) | (with_reducible refine LaidN.drew ?_) | (refine LaidN.below HLN.out ?_; repeat (first | (with_reducible first | exact HB.out | apply below_alloc | apply pw_below_drewN | apply below_drew1) | exact HB.out))))); rintro e w9 ⟨rfl, hb⟩; refine ⟨_, rfl, ?_⟩; have n0_ := Aside0.mk (below_step (by repeat (first | (with_reducible first | exact HB.out | apply below_alloc | apply pw_below_drewN | apply below_drew1) | exact HB.out)) hb); clear HB; have HB := n0_; clear n0_; (try clear hb); (try clear hb2); (try clear hk); (try clear hi)))
            go_ret
            exact ⟨by first | rfl | (simp [errW_none, errW_some] <;> rfl) | (simp [*, errW_none, errW_some] <;> rfl), by repeat (first | (with_reducible first | exact HB.out | apply below_alloc | apply pw_below_drewN | apply below_drew1) | exact HB.out)⟩
          · rw [if_neg c8] at H
            exact absurd H (by simp)
        · rw [if_neg c7] at H
          exact absurd H (by simp)
      · rw [if_neg c6] at H
        exact absurd H (by simp)
    · rw [if_neg c5] at H
      exact absurd H (by simp)
  · replace c4 := Bool.eq_false_iff.mpr c4
    subst c4
    have H1 : (none) = some r := by rw [if_neg (show ¬ (false = true) by decide)] at H; exact H
    clear H
    have H := H1
    clear H1
    exact absurd H (by simp)

end Go.Proofs.YtpijiohiohiilaaDoor.D
