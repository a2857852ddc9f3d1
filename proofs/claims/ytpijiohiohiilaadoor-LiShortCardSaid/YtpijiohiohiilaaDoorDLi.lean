/- Walks and rows of the laws of quoin: each Lean function here tells just what the Go function of its name answers. Conditions: none but those that a row itself names. Written by a program of this session (wip/reprint.py) over the kit print, and turned by it. -/
import Derived.Test.YtpijiohiohiilaaDoorD0
namespace Go.Proofs.YtpijiohiohiilaaDoor.D
open Go.RowKit Go.Proofs.YtpijiohiohiilaaDoorW.PrintWords Go.Proofs.YtpijiohiohiilaaDoorW.PrintLast Go.Proofs.YtpijiohiohiilaaDoorW.PrintMore
attribute [local go_sem] max2_int min2_int max_two min_two max_three min_three max_four min_four   -- for this text's walks alone
set_option linter.unusedVariables false
set_option linter.unusedSimpArgs false

/-! ### li_Parts: function 32 -/
def li_Parts.f (a0 : Int) : Option (Int × Int) := if ((wrap64 (a0 * 4503599627370496)) / 4503599627370496) < 0 then (some (wrap64 ((a0 / 4096) + 1), (wrap64 (a0 * 4503599627370496)) / 4503599627370496)) else (some (a0 / 4096, (wrap64 (a0 * 4503599627370496)) / 4503599627370496))
set_option maxHeartbeats 8000000 in
set_option maxRecDepth 100000 in
theorem li_Parts.calls (a0 : Int) (r1 : Int) (r2 : Int) (w : World) (h : li_Parts.f a0 = some (r1, r2)) :
    Calls Tryd.prog 32 #[.int .i64 a0] w fun e w' => e = .returned (.tuple #[.int .i64 r1, .int .i64 r2]) ∧ Drawn0 w w' := by
  have H : (if ((wrap64 (a0 * 4503599627370496)) / 4503599627370496) < 0 then (some (wrap64 ((a0 / 4096) + 1), (wrap64 (a0 * 4503599627370496)) / 4503599627370496)) else (some (a0 / 4096, (wrap64 (a0 * 4503599627370496)) / 4503599627370496))) = some (r1, r2) := h
  clear h
  by_cases c2 : ((wrap64 (a0 * 4503599627370496)) / 4503599627370496) < 0
  · rw [if_pos c2] at H
    have c2b0 : decide (((wrap64 (a0 * 4503599627370496)) / 4503599627370496) < 0) = true := decide_eq_true c2
    clear c2
    simp only [Option.some.injEq, Prod.mk.injEq] at H
    obtain ⟨rfl, rfl⟩ := H
    go_enter Tryd.func32, Tryd.ntmps32
    go_wp2
    go_ret2
    exact ⟨by first | rfl | (simp; done) | (simp only [i64_w, i32_w]; first | done | rfl | (simp; done)) | (simp [*]; done), by repeat (first | exact Drawn0.refl _ | apply Drawn0.step)⟩
  · rw [if_neg c2] at H
    have c2b0 : decide (((wrap64 (a0 * 4503599627370496)) / 4503599627370496) < 0) = false := decide_eq_false c2
    clear c2
    simp only [Option.some.injEq, Prod.mk.injEq] at H
    obtain ⟨rfl, rfl⟩ := H
    go_enter Tryd.func32, Tryd.ntmps32
    go_wp2
    go_ret2
    exact ⟨by first | rfl | (simp; done) | (simp only [i64_w, i32_w]; first | done | rfl | (simp; done)) | (simp [*]; done), by repeat (first | exact Drawn0.refl _ | apply Drawn0.step)⟩

end Go.Proofs.YtpijiohiohiilaaDoor.D
