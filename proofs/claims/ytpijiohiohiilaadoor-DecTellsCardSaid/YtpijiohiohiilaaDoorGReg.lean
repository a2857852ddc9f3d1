/- What is asked of a form's letter alone: which registers it has, where they lie, and what its number may be; told letter by letter. No condition. -/
import Derived.Test.YtpijiohiohiilaaDoorD0
namespace Go.Proofs.YtpijiohiohiilaaDoor.D
open Go.RowKit Go.Proofs.YtpijiohiohiilaaDoorW.PrintWords Go.Proofs.YtpijiohiohiilaaDoorW.PrintLast Go.Proofs.YtpijiohiohiilaaDoorW.PrintMore
set_option linter.unusedVariables false
set_option linter.unusedSimpArgs false
/-! ### insn_registers: function 58 -/
def insn_registers.f (k : Nat) (a0 : Int) : Option (Bool × Bool × Bool) := if a0 = 85 then some (true, false, false) else if a0 = 74 then some (true, false, false) else if a0 = 66 then some (false, true, true) else if a0 = 83 then some (false, true, true) else if a0 = 82 then some (true, true, true) else if a0 = 65 then some (true, true, true) else if a0 = 73 then some (true, true, false) else if a0 = 76 then some (true, true, false) else if a0 = 54 then some (true, true, false) else if a0 = 53 then some (true, true, false) else if a0 = 67 then some (true, true, false) else if a0 = 90 then some (true, true, false) else if a0 = 108 then some (true, true, false) else if a0 = 70 then some (false, false, false) else if a0 = 78 then some (false, false, false) else if a0 = 0 then some (false, false, false) else none
theorem insn_registers.mono : ∀ a0 k, LeO (insn_registers.f k a0) (insn_registers.f (k + 1) a0) := fun _ _ => LeO.refl _
set_option maxHeartbeats 8000000 in
set_option maxRecDepth 100000 in
theorem insn_registers.calls (k : Nat) (a0 : Int) (r1 : Bool) (r2 : Bool) (r3 : Bool) (w : World) (h : insn_registers.f k a0 = some (r1, r2, r3)) :
    Calls Tryd.prog 58 #[.int .u8 a0] w fun e w' => e = .returned (.tuple #[.bool r1, .bool r2, .bool r3]) ∧ Drawn0 w w' := by
  unfold insn_registers.f at h
  have hc : a0 ∈ [85, 74, 66, 83, 82, 65, 73, 76, 54, 53, 67, 90, 108, 70, 78, 0] := by
    refine Decidable.byContradiction fun hn => ?_
    simp only [List.mem_cons, List.not_mem_nil, or_false, not_or] at hn
    simp [hn] at h
  simp only [List.mem_cons, List.not_mem_nil, or_false] at hc
  rcases hc with rfl | rfl | rfl | rfl | rfl | rfl | rfl | rfl | rfl | rfl | rfl | rfl | rfl | rfl | rfl | rfl
  all_goals
    (simp at h
     obtain ⟨rfl, rfl, rfl⟩ := h
     go_enter Tryd.func58, Tryd.ntmps58
     go_wp2
     go_ret3
     exact ⟨rfl, by repeat (first | exact Drawn0.refl _ | apply Drawn0.step)⟩)
/-! ### dec_registers: function 61 -/
def dec_registers.f (k : Nat) (a0 : Int) : Option (Int × Int × Int) := if a0 = 85 then some (7, (-1), (-1)) else if a0 = 74 then some (7, (-1), (-1)) else if a0 = 66 then some ((-1), 15, 20) else if a0 = 83 then some ((-1), 15, 20) else if a0 = 82 then some (7, 15, 20) else if a0 = 65 then some (7, 15, 20) else if a0 = 73 then some (7, 15, (-1)) else if a0 = 76 then some (7, 15, (-1)) else if a0 = 54 then some (7, 15, (-1)) else if a0 = 53 then some (7, 15, (-1)) else if a0 = 67 then some (7, 15, (-1)) else if a0 = 90 then some (7, 15, (-1)) else if a0 = 108 then some (7, 15, (-1)) else if a0 = 70 then some ((-1), (-1), (-1)) else if a0 = 78 then some ((-1), (-1), (-1)) else if a0 = 0 then some ((-1), (-1), (-1)) else none
theorem dec_registers.mono : ∀ a0 k, LeO (dec_registers.f k a0) (dec_registers.f (k + 1) a0) := fun _ _ => LeO.refl _
set_option maxHeartbeats 8000000 in
set_option maxRecDepth 100000 in
theorem dec_registers.calls (k : Nat) (a0 : Int) (r1 : Int) (r2 : Int) (r3 : Int) (w : World) (h : dec_registers.f k a0 = some (r1, r2, r3)) :
    Calls Tryd.prog 61 #[.int .u8 a0] w fun e w' => e = .returned (.tuple #[.int .i64 r1, .int .i64 r2, .int .i64 r3]) ∧ Drawn0 w w' := by
  unfold dec_registers.f at h
  have hc : a0 ∈ [85, 74, 66, 83, 82, 65, 73, 76, 54, 53, 67, 90, 108, 70, 78, 0] := by
    refine Decidable.byContradiction fun hn => ?_
    simp only [List.mem_cons, List.not_mem_nil, or_false, not_or] at hn
    simp [hn] at h
  simp only [List.mem_cons, List.not_mem_nil, or_false] at hc
  rcases hc with rfl | rfl | rfl | rfl | rfl | rfl | rfl | rfl | rfl | rfl | rfl | rfl | rfl | rfl | rfl | rfl
  all_goals
    (simp at h
     obtain ⟨rfl, rfl, rfl⟩ := h
     go_enter Tryd.func61, Tryd.ntmps61
     go_wp2
     go_ret3
     exact ⟨rfl, by repeat (first | exact Drawn0.refl _ | apply Drawn0.step)⟩)
/-! ### quoinref02_shape: function 83 -/
def quoinref02_shape.f (k : Nat) (a0 : Int) : Option (Bool × Bool × Bool × Int × Int × Int) := if a0 = 85 then some (true, false, false, 0, 1048575, 1) else if a0 = 74 then some (true, false, false, (-1048576), 1048574, 2) else if a0 = 66 then some (false, true, true, (-4096), 4094, 2) else if a0 = 83 then some (false, true, true, (-2048), 2047, 1) else if a0 = 82 then some (true, true, true, 0, 0, 1) else if a0 = 65 then some (true, true, true, 0, 3, 1) else if a0 = 73 then some (true, true, false, (-2048), 2047, 1) else if a0 = 76 then some (true, true, false, (-2048), 2047, 1) else if a0 = 54 then some (true, true, false, 0, 63, 1) else if a0 = 53 then some (true, true, false, 0, 31, 1) else if a0 = 67 then some (true, true, false, 0, 4095, 1) else if a0 = 90 then some (true, true, false, 0, 4095, 1) else if a0 = 108 then some (true, true, false, 0, 3, 1) else if a0 = 70 then some (false, false, false, 0, 255, 1) else if a0 = 78 then some (false, false, false, 0, 0, 1) else if a0 = 0 then some (false, false, false, 0, 0, 1) else none
theorem quoinref02_shape.mono : ∀ a0 k, LeO (quoinref02_shape.f k a0) (quoinref02_shape.f (k + 1) a0) := fun _ _ => LeO.refl _
set_option maxHeartbeats 8000000 in
set_option maxRecDepth 100000 in
theorem quoinref02_shape.calls (k : Nat) (a0 : Int) (r1 : Bool) (r2 : Bool) (r3 : Bool) (r4 : Int) (r5 : Int) (r6 : Int) (w : World) (h : quoinref02_shape.f k a0 = some (r1, r2, r3, r4, r5, r6)) :
    Calls Tryd.prog 83 #[.int .u8 a0] w fun e w' => e = .returned (.tuple #[.bool r1, .bool r2, .bool r3, .int .i64 r4, .int .i64 r5, .int .i64 r6]) ∧ Drawn0 w w' := by
  unfold quoinref02_shape.f at h
  have hc : a0 ∈ [85, 74, 66, 83, 82, 65, 73, 76, 54, 53, 67, 90, 108, 70, 78, 0] := by
    refine Decidable.byContradiction fun hn => ?_
    simp only [List.mem_cons, List.not_mem_nil, or_false, not_or] at hn
    simp [hn] at h
  simp only [List.mem_cons, List.not_mem_nil, or_false] at hc
  rcases hc with rfl | rfl | rfl | rfl | rfl | rfl | rfl | rfl | rfl | rfl | rfl | rfl | rfl | rfl | rfl | rfl
  all_goals
    (simp at h
     obtain ⟨rfl, rfl, rfl, rfl, rfl, rfl⟩ := h
     go_enter Tryd.func83, Tryd.ntmps83
     go_wp2
     refine bodyPost_ret (results_list (rs := [.tmp 2, .tmp 3, .tmp 4, .tmp 5, .tmp 6, .tmp 7]) rfl (by simp) (.tmp (.tmp (.tmp (.tmp (.tmp (.tmp .nil))))))) rfl ?_
     exact ⟨rfl, by repeat (first | exact Drawn0.refl _ | apply Drawn0.step)⟩)
end Go.Proofs.YtpijiohiohiilaaDoor.D
