/- Walks and rows of the laws of quoin: each Lean function here tells just what the Go function of its name answers. Conditions: none but those that a row itself names. Written by a program of this session (wip/reprint.py) over the kit print, and turned by it. -/
import Derived.Test.YtpijiohiohiilaaDoorD0
import Derived.Test.YtpijiohiohiilaaDoorDQuoinlaw02
import Derived.Test.YtpijiohiohiilaaDoorGInsn
namespace Go.Proofs.YtpijiohiohiilaaDoor.D
open Go.RowKit Go.Proofs.YtpijiohiohiilaaDoorW.PrintWords Go.Proofs.YtpijiohiohiilaaDoorW.PrintLast Go.Proofs.YtpijiohiohiilaaDoorW.PrintMore
attribute [local go_sem] max2_int min2_int max_two min_two max_three min_three max_four min_four   -- for this text's walks alone
set_option linter.unusedVariables false
set_option linter.unusedSimpArgs false

/-! ### quoinlaw02_InsnAlone: function 3 -/
def quoinlaw02_InsnAlone.f (k : Nat) (a0 : Int) (a1 : Int) : Option (Bool) := (quoinlaw02_alive.f k).bind fun t108 => ((insn_Name.f a0).bind fun bt109 => ((insn_Name.f a1).bind fun bt111 => (if bt109.2 = 0 then (if t108 = true then ((insn_Of.f k bt109.1).bind fun bt113 => (if bt113.2 = 0 then (if bt113.1 = a0 then (if bt111.2 = 0 then (some ((bt109.1.toList == bt111.1.toList) == (a0 == a1))) else (some true)) else (none)) else (none))) else (none)) else (if t108 = true then (if bt109.1.toList = ([] : List UInt8) then (if a0 = 0 then (some true) else (some (decide (a0 > 94)))) else (none)) else (none)))))
theorem quoinlaw02_InsnAlone.mono : ∀ a0 a1 k, LeO (quoinlaw02_InsnAlone.f k a0 a1) (quoinlaw02_InsnAlone.f (k + 1) a0 a1) := by
  intro a0 a1 k
  unfold quoinlaw02_InsnAlone.f
  repeat' first
      | (with_reducible exact insn_Of.mono _ _)
      | (with_reducible exact quoinlaw02_alive.mono _)
      | (with_reducible exact LeO.refl _)
      | (with_reducible exact LeO.none _)
      | (with_reducible refine LeO.ite ?_ ?_)
      | (with_reducible refine LeO.bind ?_ (fun _ => ?_))
      | exact insn_Of.mono _ _
      | exact quoinlaw02_alive.mono _
      | exact LeO.none _
      | refine LeO.ite ?_ ?_
      | refine LeO.bind ?_ (fun _ => ?_)
set_option maxHeartbeats 8000000 in
set_option maxRecDepth 100000 in
theorem quoinlaw02_InsnAlone.calls (k : Nat) (a0 : Int) (a1 : Int) (r : Bool) (w : World) (hN : LaidN w) (h : quoinlaw02_InsnAlone.f k a0 a1 = some r) :
    Calls Tryd.prog 3 #[.int .u8 a0, .int .u8 a1] w fun e w' => e = .returned (.bool r) ∧ Drawn0 w w' := by
  have HLN := Aside0.mk hN
  clear hN
  have H : ((quoinlaw02_alive.f k).bind fun t108 => ((insn_Name.f a0).bind fun bt109 => ((insn_Name.f a1).bind fun bt111 => (if bt109.2 = 0 then (if t108 = true then ((insn_Of.f k bt109.1).bind fun bt113 => (if bt113.2 = 0 then (if bt113.1 = a0 then (if bt111.2 = 0 then (some ((bt109.1.toList == bt111.1.toList) == (a0 == a1))) else (some true)) else (none)) else (none))) else (none)) else (if t108 = true then (if bt109.1.toList = ([] : List UInt8) then (if a0 = 0 then (some true) else (some (decide (a0 > 94)))) else (none)) else (none)))))) = some r := h
  clear h
  replace H := Option.bind_eq_some_iff.mp H
  obtain ⟨t108, A30, H⟩ := H
  replace H : ((insn_Name.f a0).bind fun bt109 => ((insn_Name.f a1).bind fun bt111 => (if bt109.2 = 0 then (if t108 = true then ((insn_Of.f k bt109.1).bind fun bt113 => (if bt113.2 = 0 then (if bt113.1 = a0 then (if bt111.2 = 0 then (some ((bt109.1.toList == bt111.1.toList) == (a0 == a1))) else (some true)) else (none)) else (none))) else (none)) else (if t108 = true then (if bt109.1.toList = ([] : List UInt8) then (if a0 = 0 then (some true) else (some (decide (a0 > 94)))) else (none)) else (none))))) = some r := H
  have A3 := Aside0.mk A30
  clear A30
  replace H := Option.bind_eq_some_iff.mp H
  obtain ⟨⟨t109, t110⟩, A40, H⟩ := H
  replace H : ((insn_Name.f a1).bind fun bt111 => (if t110 = 0 then (if t108 = true then ((insn_Of.f k t109).bind fun bt113 => (if bt113.2 = 0 then (if bt113.1 = a0 then (if bt111.2 = 0 then (some ((t109.toList == bt111.1.toList) == (a0 == a1))) else (some true)) else (none)) else (none))) else (none)) else (if t108 = true then (if t109.toList = ([] : List UInt8) then (if a0 = 0 then (some true) else (some (decide (a0 > 94)))) else (none)) else (none)))) = some r := H
  have A4 := Aside0.mk A40
  clear A40
  replace H := Option.bind_eq_some_iff.mp H
  obtain ⟨⟨t111, t112⟩, A50, H⟩ := H
  replace H : (if t110 = 0 then (if t108 = true then ((insn_Of.f k t109).bind fun bt113 => (if bt113.2 = 0 then (if bt113.1 = a0 then (if t112 = 0 then (some ((t109.toList == t111.toList) == (a0 == a1))) else (some true)) else (none)) else (none))) else (none)) else (if t108 = true then (if t109.toList = ([] : List UInt8) then (if a0 = 0 then (some true) else (some (decide (a0 > 94)))) else (none)) else (none))) = some r := H
  have A5 := Aside0.mk A50
  clear A50
  by_cases c6 : t110 = 0
  · rw [if_pos c6] at H
    have c6b0 : (t110 == 0) = true := beq_iff_eq.mpr c6
    have c6b1 : (t110 != 0) = false := bne_eq_false_iff_eq.mpr c6
    clear c6
    by_cases c7 : t108 = true
    · subst c7
      have H1 : ((insn_Of.f k t109).bind fun bt113 => (if bt113.2 = 0 then (if bt113.1 = a0 then (if t112 = 0 then (some ((t109.toList == t111.toList) == (a0 == a1))) else (some true)) else (none)) else (none))) = some r := by rw [if_pos rfl] at H; exact H
      clear H
      have H := H1
      clear H1
      replace H := Option.bind_eq_some_iff.mp H
      obtain ⟨⟨t113, t114⟩, A80, H⟩ := H
      replace H : (if t114 = 0 then (if t113 = a0 then (if t112 = 0 then (some ((t109.toList == t111.toList) == (a0 == a1))) else (some true)) else (none)) else (none)) = some r := H
      have A8 := Aside0.mk A80
      clear A80
      by_cases c9 : t114 = 0
      · rw [if_pos c9] at H
        have c9b0 : (t114 == 0) = true := beq_iff_eq.mpr c9
        have c9b1 : (t114 != 0) = false := bne_eq_false_iff_eq.mpr c9
        clear c9
        by_cases c10 : t113 = a0
        · rw [if_pos c10] at H
          have c10b0 : (t113 == a0) = true := beq_iff_eq.mpr c10
          have c10b1 : (t113 != a0) = false := bne_eq_false_iff_eq.mpr c10
          clear c10
          by_cases c11 : t112 = 0
          · rw [if_pos c11] at H
            have c11b0 : (t112 == 0) = true := beq_iff_eq.mpr c11
            have c11b1 : (t112 != 0) = false := bne_eq_false_iff_eq.mpr c11
            clear c11
            obtain rfl := Option.some.inj H
            go_enter Tryd.func3, Tryd.ntmps3
            go_wp2_with (first | ((with_reducible refine gate_callee (f := 20) rfl ?_); refine goesL_ (some 12) rfl rfl Tryd.func20 (by kernel_rfl) rfl #[] rfl (by (try simp only [List.map_toArray, List.map_cons, List.map_nil]); first | done | rfl | (simp only [List.length_drop, List.length_take]; rfl)) ?_; (with_reducible refine (quoinlaw02_alive.calls k  true _ ?sideLN A3.out).mono ?_); (case sideLN => (repeat (first | exact HLN.out | (with_reducible refine LaidN.alloc ?_ _) | (with_reducible refine LaidN.drewN ?_ _) | (with_reducible refine LaidN.drew ?_)))); rintro e w' ⟨rfl, ⟨nd, rfl⟩⟩; refine ⟨_, rfl, ?_⟩) | ((with_reducible refine gate_callee (f := 21) rfl ?_); refine goesL_ (some 15) rfl rfl Tryd.func21 (by kernel_rfl) rfl #[.int .u8 a0] rfl (by (try simp only [List.map_toArray, List.map_cons, List.map_nil]); first | done | rfl | (simp only [List.length_drop, List.length_take]; rfl)) ?_; (with_reducible refine (insn_Name.calls a0 t109 t110 _ ?sideLN A4.out).mono ?_); (case sideLN => (repeat (first | exact HLN.out | (with_reducible refine LaidN.alloc ?_ _) | (with_reducible refine LaidN.drewN ?_ _) | (with_reducible refine LaidN.drew ?_)))); rintro e w' ⟨rfl, ⟨nd, rfl⟩⟩; refine ⟨_, rfl, ?_⟩) | ((with_reducible refine gate_callee (f := 21) rfl ?_); refine goesL_ (some 20) rfl rfl Tryd.func21 (by kernel_rfl) rfl #[.int .u8 a1] rfl (by (try simp only [List.map_toArray, List.map_cons, List.map_nil]); first | done | rfl | (simp only [List.length_drop, List.length_take]; rfl)) ?_; (with_reducible refine (insn_Name.calls a1 t111 t112 _ ?sideLN A5.out).mono ?_); (case sideLN => (repeat (first | exact HLN.out | (with_reducible refine LaidN.alloc ?_ _) | (with_reducible refine LaidN.drewN ?_ _) | (with_reducible refine LaidN.drew ?_)))); rintro e w' ⟨rfl, ⟨nd, rfl⟩⟩; refine ⟨_, rfl, ?_⟩) | ((with_reducible refine gate_callee (f := 22) rfl ?_); refine goesL_ (some 44) rfl rfl Tryd.func22 (by kernel_rfl) rfl #[.string t109] rfl (by (try simp only [List.map_toArray, List.map_cons, List.map_nil]); first | done | rfl | (simp only [List.length_drop, List.length_take]; rfl)) ?_; (with_reducible refine (insn_Of.calls k t109 t113 t114 _ ?sideLN A8.out).mono ?_); (case sideLN => (repeat (first | exact HLN.out | (with_reducible refine LaidN.alloc ?_ _) | (with_reducible refine LaidN.drewN ?_ _) | (with_reducible refine LaidN.drew ?_)))); rintro e w' ⟨rfl, ⟨nd, rfl⟩⟩; refine ⟨_, rfl, ?_⟩))
            go_ret
            exact ⟨by first | rfl | (simp; done) | (simp only [i64_w, i32_w]; first | done | rfl | (simp; done)) | (simp [*]; done), by repeat (first | exact Drawn0.refl _ | apply Drawn0.step)⟩
          · rw [if_neg c11] at H
            have c11b0 : (t112 == 0) = false := beq_eq_false_iff_ne.mpr c11
            have c11b1 : (t112 != 0) = true := bne_iff_ne.mpr c11
            obtain rfl := Option.some.inj H
            go_enter Tryd.func3, Tryd.ntmps3
            go_wp2_with (first | ((with_reducible refine gate_callee (f := 20) rfl ?_); refine goesL_ (some 12) rfl rfl Tryd.func20 (by kernel_rfl) rfl #[] rfl (by (try simp only [List.map_toArray, List.map_cons, List.map_nil]); first | done | rfl | (simp only [List.length_drop, List.length_take]; rfl)) ?_; (with_reducible refine (quoinlaw02_alive.calls k  true _ ?sideLN A3.out).mono ?_); (case sideLN => (repeat (first | exact HLN.out | (with_reducible refine LaidN.alloc ?_ _) | (with_reducible refine LaidN.drewN ?_ _) | (with_reducible refine LaidN.drew ?_)))); rintro e w' ⟨rfl, ⟨nd, rfl⟩⟩; refine ⟨_, rfl, ?_⟩) | ((with_reducible refine gate_callee (f := 21) rfl ?_); refine goesL_ (some 15) rfl rfl Tryd.func21 (by kernel_rfl) rfl #[.int .u8 a0] rfl (by (try simp only [List.map_toArray, List.map_cons, List.map_nil]); first | done | rfl | (simp only [List.length_drop, List.length_take]; rfl)) ?_; (with_reducible refine (insn_Name.calls a0 t109 t110 _ ?sideLN A4.out).mono ?_); (case sideLN => (repeat (first | exact HLN.out | (with_reducible refine LaidN.alloc ?_ _) | (with_reducible refine LaidN.drewN ?_ _) | (with_reducible refine LaidN.drew ?_)))); rintro e w' ⟨rfl, ⟨nd, rfl⟩⟩; refine ⟨_, rfl, ?_⟩) | ((with_reducible refine gate_callee (f := 21) rfl ?_); refine goesL_ (some 20) rfl rfl Tryd.func21 (by kernel_rfl) rfl #[.int .u8 a1] rfl (by (try simp only [List.map_toArray, List.map_cons, List.map_nil]); first | done | rfl | (simp only [List.length_drop, List.length_take]; rfl)) ?_; (with_reducible refine (insn_Name.calls a1 t111 t112 _ ?sideLN A5.out).mono ?_); (case sideLN => (repeat (first | exact HLN.out | (with_reducible refine LaidN.alloc ?_ _) | (with_reducible refine LaidN.drewN ?_ _) | (with_reducible refine LaidN.drew ?_)))); rintro e w' ⟨rfl, ⟨nd, rfl⟩⟩; refine ⟨_, rfl, ?_⟩) | ((with_reducible refine gate_callee (f := 22) rfl ?_); refine goesL_ (some 44) rfl rfl Tryd.func22 (by kernel_rfl) rfl #[.string t109] rfl (by (try simp only [List.map_toArray, List.map_cons, List.map_nil]); first | done | rfl | (simp only [List.length_drop, List.length_take]; rfl)) ?_; (with_reducible refine (insn_Of.calls k t109 t113 t114 _ ?sideLN A8.out).mono ?_); (case sideLN => (repeat (first | exact HLN.out | (with_reducible refine LaidN.alloc ?_ _) | (with_reducible refine LaidN.drewN ?_ _) | (with_reducible refine LaidN.drew ?_)))); rintro e w' ⟨rfl, ⟨nd, rfl⟩⟩; refine ⟨_, rfl, ?_⟩))
            go_ret
            exact ⟨by first | rfl | (simp; done) | (simp only [i64_w, i32_w]; first | done | rfl | (simp; done)) | (simp [*]; done), by repeat (first | exact Drawn0.refl _ | apply Drawn0.step)⟩
        · rw [if_neg c10] at H
          exact absurd H (by simp)
      · rw [if_neg c9] at H
        exact absurd H (by simp)
    · replace c7 := Bool.eq_false_iff.mpr c7
      subst c7
      have H1 : (none) = some r := by rw [if_neg (show ¬ (false = true) by decide)] at H; exact H
      clear H
      have H := H1
      clear H1
      exact absurd H (by simp)
  · rw [if_neg c6] at H
    have c6b0 : (t110 == 0) = false := beq_eq_false_iff_ne.mpr c6
    have c6b1 : (t110 != 0) = true := bne_iff_ne.mpr c6
    by_cases c12 : t108 = true
    · subst c12
      have H1 : (if t109.toList = ([] : List UInt8) then (if a0 = 0 then (some true) else (some (decide (a0 > 94)))) else (none)) = some r := by rw [if_pos rfl] at H; exact H
      clear H
      have H := H1
      clear H1
      by_cases c13 : t109.toList = ([] : List UInt8)
      · rw [if_pos c13] at H
        have c13b0 : (t109.toList == ([] : List UInt8)) = true := beq_iff_eq.mpr c13
        have c13b1 : (t109.toList != ([] : List UInt8)) = false := bne_eq_false_iff_eq.mpr c13
        clear c13
        by_cases c14 : a0 = 0
        · rw [if_pos c14] at H
          have c14b0 : (a0 == 0) = true := beq_iff_eq.mpr c14
          have c14b1 : (a0 != 0) = false := bne_eq_false_iff_eq.mpr c14
          clear c14
          obtain rfl := Option.some.inj H
          go_enter Tryd.func3, Tryd.ntmps3
          go_wp2_with (first | ((with_reducible refine gate_callee (f := 20) rfl ?_); refine goesL_ (some 12) rfl rfl Tryd.func20 (by kernel_rfl) rfl #[] rfl (by (try simp only [List.map_toArray, List.map_cons, List.map_nil]); first | done | rfl | (simp only [List.length_drop, List.length_take]; rfl)) ?_; (with_reducible refine (quoinlaw02_alive.calls k  true _ ?sideLN A3.out).mono ?_); (case sideLN => (repeat (first | exact HLN.out | (with_reducible refine LaidN.alloc ?_ _) | (with_reducible refine LaidN.drewN ?_ _) | (with_reducible refine LaidN.drew ?_)))); rintro e w' ⟨rfl, ⟨nd, rfl⟩⟩; refine ⟨_, rfl, ?_⟩) | ((with_reducible refine gate_callee (f := 21) rfl ?_); refine goesL_ (some 15) rfl rfl Tryd.func21 (by kernel_rfl) rfl #[.int .u8 a0] rfl (by (try simp only [List.map_toArray, List.map_cons, List.map_nil]); first | done | rfl | (simp only [List.length_drop, List.length_take]; rfl)) ?_; (with_reducible refine (insn_Name.calls a0 t109 t110 _ ?sideLN A4.out).mono ?_); (case sideLN => (repeat (first | exact HLN.out | (with_reducible refine LaidN.alloc ?_ _) | (with_reducible refine LaidN.drewN ?_ _) | (with_reducible refine LaidN.drew ?_)))); rintro e w' ⟨rfl, ⟨nd, rfl⟩⟩; refine ⟨_, rfl, ?_⟩) | ((with_reducible refine gate_callee (f := 21) rfl ?_); refine goesL_ (some 20) rfl rfl Tryd.func21 (by kernel_rfl) rfl #[.int .u8 a1] rfl (by (try simp only [List.map_toArray, List.map_cons, List.map_nil]); first | done | rfl | (simp only [List.length_drop, List.length_take]; rfl)) ?_; (with_reducible refine (insn_Name.calls a1 t111 t112 _ ?sideLN A5.out).mono ?_); (case sideLN => (repeat (first | exact HLN.out | (with_reducible refine LaidN.alloc ?_ _) | (with_reducible refine LaidN.drewN ?_ _) | (with_reducible refine LaidN.drew ?_)))); rintro e w' ⟨rfl, ⟨nd, rfl⟩⟩; refine ⟨_, rfl, ?_⟩))
          go_ret
          exact ⟨by first | rfl | (simp; done) | (simp only [i64_w, i32_w]; first | done | rfl | (simp; done)) | (simp [*]; done), by repeat (first | exact Drawn0.refl _ | apply Drawn0.step)⟩
        · rw [if_neg c14] at H
          have c14b0 : (a0 == 0) = false := beq_eq_false_iff_ne.mpr c14
          have c14b1 : (a0 != 0) = true := bne_iff_ne.mpr c14
          obtain rfl := Option.some.inj H
          go_enter Tryd.func3, Tryd.ntmps3
          go_wp2_with (first | ((with_reducible refine gate_callee (f := 20) rfl ?_); refine goesL_ (some 12) rfl rfl Tryd.func20 (by kernel_rfl) rfl #[] rfl (by (try simp only [List.map_toArray, List.map_cons, List.map_nil]); first | done | rfl | (simp only [List.length_drop, List.length_take]; rfl)) ?_; (with_reducible refine (quoinlaw02_alive.calls k  true _ ?sideLN A3.out).mono ?_); (case sideLN => (repeat (first | exact HLN.out | (with_reducible refine LaidN.alloc ?_ _) | (with_reducible refine LaidN.drewN ?_ _) | (with_reducible refine LaidN.drew ?_)))); rintro e w' ⟨rfl, ⟨nd, rfl⟩⟩; refine ⟨_, rfl, ?_⟩) | ((with_reducible refine gate_callee (f := 21) rfl ?_); refine goesL_ (some 15) rfl rfl Tryd.func21 (by kernel_rfl) rfl #[.int .u8 a0] rfl (by (try simp only [List.map_toArray, List.map_cons, List.map_nil]); first | done | rfl | (simp only [List.length_drop, List.length_take]; rfl)) ?_; (with_reducible refine (insn_Name.calls a0 t109 t110 _ ?sideLN A4.out).mono ?_); (case sideLN => (repeat (first | exact HLN.out | (with_reducible refine LaidN.alloc ?_ _) | (with_reducible refine LaidN.drewN ?_ _) | (with_reducible refine LaidN.drew ?_)))); rintro e w' ⟨rfl, ⟨nd, rfl⟩⟩; refine ⟨_, rfl, ?_⟩) | ((with_reducible refine gate_callee (f := 21) rfl ?_); refine goesL_ (some 20) rfl rfl Tryd.func21 (by kernel_rfl) rfl #[.int .u8 a1] rfl (by (try simp only [List.map_toArray, List.map_cons, List.map_nil]); first | done | rfl | (simp only [List.length_drop, List.length_take]; rfl)) ?_; (with_reducible refine (insn_Name.calls a1 t111 t112 _ ?sideLN A5.out).mono ?_); (case sideLN => (repeat (first | exact HLN.out | (with_reducible refine LaidN.alloc ?_ _) | (with_reducible refine LaidN.drewN ?_ _) | (with_reducible refine LaidN.drew ?_)))); rintro e w' ⟨rfl, ⟨nd, rfl⟩⟩; refine ⟨_, rfl, ?_⟩))
          go_ret
          exact ⟨by first | rfl | (simp; done) | (simp only [i64_w, i32_w]; first | done | rfl | (simp; done)) | (simp [*]; done), by repeat (first | exact Drawn0.refl _ | apply Drawn0.step)⟩
      · rw [if_neg c13] at H
        exact absurd H (by simp)
    · replace c12 := Bool.eq_false_iff.mpr c12
      subst c12
      have H1 : (none) = some r := by rw [if_neg (show ¬ (false = true) by decide)] at H; exact H
      clear H
      have H := H1
      clear H1
      exact absurd H (by simp)

end Go.Proofs.YtpijiohiohiilaaDoor.D
