/- Walks and rows of the laws of quoin: each Lean function here tells just what the Go function of its name answers. Conditions: none but those that a row itself names. Written by a program of this session (wip/reprint.py) over the kit print, and turned by it. -/
import Derived.Test.YtpijiohiohiilaaDoorD0
import Derived.Test.YtpijiohiohiilaaDoorGInsn
namespace Go.Proofs.YtpijiohiohiilaaDoor.D
open Go.RowKit Go.Proofs.YtpijiohiohiilaaDoorW.PrintWords Go.Proofs.YtpijiohiohiilaaDoorW.PrintLast Go.Proofs.YtpijiohiohiilaaDoorW.PrintMore
attribute [local go_sem] max2_int min2_int max_two min_two max_three min_three max_four min_four   -- for this text's walks alone
set_option linter.unusedVariables false
set_option linter.unusedSimpArgs false

/-! ### quoinlaw02_alive: function 20 -/
def quoinlaw02_alive.f (k : Nat)  : Option (Bool) := (insn_Name.f 1).bind fun bt102 => ((insn_Name.f 94).bind fun bt104 => ((insn_Of.f k (⟨#[97, 100, 100, 105]⟩ : ByteArray)).bind fun bt106 => (if bt102.2 = 0 then (if bt104.2 = 0 then (if bt106.2 = 0 then (if bt102.1.toList = ([108, 117, 105] : List UInt8) then (if bt104.1.toList = ([97, 109, 111, 109, 97, 120, 117, 46, 100] : List UInt8) then (some (bt106.1 == 22)) else (none)) else (none)) else (none)) else (none)) else (none))))
theorem quoinlaw02_alive.mono : ∀ k, LeO (quoinlaw02_alive.f k ) (quoinlaw02_alive.f (k + 1) ) := by
  intro  k
  unfold quoinlaw02_alive.f
  repeat' first
      | (with_reducible exact insn_Of.mono _ _)
      | (with_reducible exact LeO.refl _)
      | (with_reducible exact LeO.none _)
      | (with_reducible refine LeO.ite ?_ ?_)
      | (with_reducible refine LeO.bind ?_ (fun _ => ?_))
      | exact insn_Of.mono _ _
      | exact LeO.none _
      | refine LeO.ite ?_ ?_
      | refine LeO.bind ?_ (fun _ => ?_)
set_option maxHeartbeats 8000000 in
set_option maxRecDepth 100000 in
theorem quoinlaw02_alive.calls (k : Nat)  (r : Bool) (w : World) (hN : LaidN w) (h : quoinlaw02_alive.f k  = some r) :
    Calls Tryd.prog 20 #[] w fun e w' => e = .returned (.bool r) ∧ Drawn0 w w' := by
  have HLN := Aside0.mk hN
  clear hN
  have H : ((insn_Name.f 1).bind fun bt102 => ((insn_Name.f 94).bind fun bt104 => ((insn_Of.f k (⟨#[97, 100, 100, 105]⟩ : ByteArray)).bind fun bt106 => (if bt102.2 = 0 then (if bt104.2 = 0 then (if bt106.2 = 0 then (if bt102.1.toList = ([108, 117, 105] : List UInt8) then (if bt104.1.toList = ([97, 109, 111, 109, 97, 120, 117, 46, 100] : List UInt8) then (some (bt106.1 == 22)) else (none)) else (none)) else (none)) else (none)) else (none))))) = some r := h
  clear h
  replace H := Option.bind_eq_some_iff.mp H
  obtain ⟨⟨t102, t103⟩, A10, H⟩ := H
  replace H : ((insn_Name.f 94).bind fun bt104 => ((insn_Of.f k (⟨#[97, 100, 100, 105]⟩ : ByteArray)).bind fun bt106 => (if t103 = 0 then (if bt104.2 = 0 then (if bt106.2 = 0 then (if t102.toList = ([108, 117, 105] : List UInt8) then (if bt104.1.toList = ([97, 109, 111, 109, 97, 120, 117, 46, 100] : List UInt8) then (some (bt106.1 == 22)) else (none)) else (none)) else (none)) else (none)) else (none)))) = some r := H
  have A1 := Aside0.mk A10
  clear A10
  replace H := Option.bind_eq_some_iff.mp H
  obtain ⟨⟨t104, t105⟩, A20, H⟩ := H
  replace H : ((insn_Of.f k (⟨#[97, 100, 100, 105]⟩ : ByteArray)).bind fun bt106 => (if t103 = 0 then (if t105 = 0 then (if bt106.2 = 0 then (if t102.toList = ([108, 117, 105] : List UInt8) then (if t104.toList = ([97, 109, 111, 109, 97, 120, 117, 46, 100] : List UInt8) then (some (bt106.1 == 22)) else (none)) else (none)) else (none)) else (none)) else (none))) = some r := H
  have A2 := Aside0.mk A20
  clear A20
  replace H := Option.bind_eq_some_iff.mp H
  obtain ⟨⟨t106, t107⟩, A30, H⟩ := H
  replace H : (if t103 = 0 then (if t105 = 0 then (if t107 = 0 then (if t102.toList = ([108, 117, 105] : List UInt8) then (if t104.toList = ([97, 109, 111, 109, 97, 120, 117, 46, 100] : List UInt8) then (some (t106 == 22)) else (none)) else (none)) else (none)) else (none)) else (none)) = some r := H
  have A3 := Aside0.mk A30
  clear A30
  by_cases c4 : t103 = 0
  · rw [if_pos c4] at H
    have c4b0 : (t103 == 0) = true := beq_iff_eq.mpr c4
    have c4b1 : (t103 != 0) = false := bne_eq_false_iff_eq.mpr c4
    clear c4
    by_cases c5 : t105 = 0
    · rw [if_pos c5] at H
      have c5b0 : (t105 == 0) = true := beq_iff_eq.mpr c5
      have c5b1 : (t105 != 0) = false := bne_eq_false_iff_eq.mpr c5
      clear c5
      by_cases c6 : t107 = 0
      · rw [if_pos c6] at H
        have c6b0 : (t107 == 0) = true := beq_iff_eq.mpr c6
        have c6b1 : (t107 != 0) = false := bne_eq_false_iff_eq.mpr c6
        clear c6
        by_cases c7 : t102.toList = ([108, 117, 105] : List UInt8)
        · rw [if_pos c7] at H
          have c7b0 : (t102.toList == ([108, 117, 105] : List UInt8)) = true := beq_iff_eq.mpr c7
          have c7b1 : (t102.toList != ([108, 117, 105] : List UInt8)) = false := bne_eq_false_iff_eq.mpr c7
          clear c7
          by_cases c8 : t104.toList = ([97, 109, 111, 109, 97, 120, 117, 46, 100] : List UInt8)
          · rw [if_pos c8] at H
            have c8b0 : (t104.toList == ([97, 109, 111, 109, 97, 120, 117, 46, 100] : List UInt8)) = true := beq_iff_eq.mpr c8
            have c8b1 : (t104.toList != ([97, 109, 111, 109, 97, 120, 117, 46, 100] : List UInt8)) = false := bne_eq_false_iff_eq.mpr c8
            clear c8
            obtain rfl := Option.some.inj H
            go_enter Tryd.func20, Tryd.ntmps20
            go_wp2_with (first | ((with_reducible refine gate_callee (f := 21) rfl ?_); refine goesL_ (some 8) rfl rfl Tryd.func21 (by kernel_rfl) rfl #[.int .u8 1] rfl (by (try simp only [List.map_toArray, List.map_cons, List.map_nil]); first | done | rfl | (simp only [List.length_drop, List.length_take]; rfl)) ?_; (with_reducible refine (insn_Name.calls 1 t102 t103 _ ?sideLN A1.out).mono ?_); (case sideLN => (repeat (first | exact HLN.out | (with_reducible refine LaidN.alloc ?_ _) | (with_reducible refine LaidN.drewN ?_ _) | (with_reducible refine LaidN.drew ?_)))); rintro e w' ⟨rfl, ⟨nd, rfl⟩⟩; refine ⟨_, rfl, ?_⟩) | ((with_reducible refine gate_callee (f := 21) rfl ?_); refine goesL_ (some 12) rfl rfl Tryd.func21 (by kernel_rfl) rfl #[.int .u8 94] rfl (by (try simp only [List.map_toArray, List.map_cons, List.map_nil]); first | done | rfl | (simp only [List.length_drop, List.length_take]; rfl)) ?_; (with_reducible refine (insn_Name.calls 94 t104 t105 _ ?sideLN A2.out).mono ?_); (case sideLN => (repeat (first | exact HLN.out | (with_reducible refine LaidN.alloc ?_ _) | (with_reducible refine LaidN.drewN ?_ _) | (with_reducible refine LaidN.drew ?_)))); rintro e w' ⟨rfl, ⟨nd, rfl⟩⟩; refine ⟨_, rfl, ?_⟩) | ((with_reducible refine gate_callee (f := 22) rfl ?_); refine goesL_ (some 16) rfl rfl Tryd.func22 (by kernel_rfl) rfl #[.string (⟨#[97, 100, 100, 105]⟩ : ByteArray)] rfl (by (try simp only [List.map_toArray, List.map_cons, List.map_nil]); first | done | rfl | (simp only [List.length_drop, List.length_take]; rfl)) ?_; (with_reducible refine (insn_Of.calls k (⟨#[97, 100, 100, 105]⟩ : ByteArray) t106 t107 _ ?sideLN A3.out).mono ?_); (case sideLN => (repeat (first | exact HLN.out | (with_reducible refine LaidN.alloc ?_ _) | (with_reducible refine LaidN.drewN ?_ _) | (with_reducible refine LaidN.drew ?_)))); rintro e w' ⟨rfl, ⟨nd, rfl⟩⟩; refine ⟨_, rfl, ?_⟩))
            go_ret
            exact ⟨by first | rfl | (simp; done) | (simp only [i64_w, i32_w]; first | done | rfl | (simp; done)) | (simp [*]; done), by repeat (first | exact Drawn0.refl _ | apply Drawn0.step)⟩
          · rw [if_neg c8] at H
            exact absurd H (by simp)
        · rw [if_neg c7] at H
          exact absurd H (by simp)
      · rw [if_neg c6] at H
        exact absurd H (by simp)
    · rw [if_neg c5] at H
      exact absurd H (by simp)
  · rw [if_neg c4] at H
    exact absurd H (by simp)

end Go.Proofs.YtpijiohiohiilaaDoor.D
