/- Walks and rows of the laws of quoin: each Lean function here tells just what the Go function of its name answers. Conditions: none but those that a row itself names. Written by a program of this session (wip/reprint.py) over the kit print, and turned by it. -/
import Derived.Test.YtpijiohiohiilaaB0
import Derived.Test.YtpijiohiohiilaaBBits
import Derived.Test.YtpijiohiohiilaaBQuoinlaw01
namespace Go.Proofs.Ytpijiohiohiilaa.B
open Go.RowKit Go.Proofs.YtpijiohiohiilaaW.PrintWords Go.Proofs.YtpijiohiohiilaaW.PrintLast Go.Proofs.YtpijiohiohiilaaW.PrintMore
attribute [local go_sem] max2_int min2_int max_two min_two max_three min_three max_four min_four   -- for this text's walks alone
set_option linter.unusedVariables false
set_option linter.unusedSimpArgs false

/-! ### quoinlaw01_BitsStay: function 3 -/
mutual
def quoinlaw01_BitsStay.j0 : Nat → Int → Int → Int → Int → Int → Bool → Int → Bool → Option (Bool)
  | 0, _, _, _, _, _, _, _, _ => none
  | k + 1, x0, x1, x2, x3, x4, x11, x12, x35 => if x35 = true then (if x11 = true then (some (x12 == 0)) else (some false)) else ((bits_Take.f x12 x1 x2).bind fun bt116 => (if bt116.2 = 0 then (quoinlaw01_BitsStay.j1 k x0 x1 x2 x4 x12 (bt116.1 != x3)) else (quoinlaw01_BitsStay.j1 k x0 x1 x2 x4 x12 true)))
def quoinlaw01_BitsStay.j1 : Nat → Int → Int → Int → Int → Int → Bool → Option (Bool)
  | 0, _, _, _, _, _, _ => none
  | k + 1, x0, x1, x2, x4, x12, x54 => if x54 = true then (some false) else ((bits_Take.f x0 x4 1).bind fun bt118 => ((bits_Take.f x12 x4 1).bind fun bt120 => (if x4 ≥ x1 then (if bt118.2 = bt120.2 then (if bt118.2 = 0 then (if x4 < (wrap64 (x1 + x2)) then (some true) else (some (bt118.1 == bt120.1))) else (some true)) else (some false)) else (if bt118.2 = bt120.2 then (if bt118.2 = 0 then (some (bt118.1 == bt120.1)) else (some true)) else (some false)))))
end
def quoinlaw01_BitsStay.f (k : Nat) (a0 : Int) (a1 : Int) (a2 : Int) (a3 : Int) (a4 : Int) : Option (Bool) := (quoinlaw01_alive.f).bind fun t113 => ((bits_Put.f a0 a1 a2 a3).bind fun bt114 => (if bt114.2 = 0 then (quoinlaw01_BitsStay.j0 k a0 a1 a2 a3 a4 t113 bt114.1 (!t113)) else (quoinlaw01_BitsStay.j0 k a0 a1 a2 a3 a4 t113 bt114.1 true)))
theorem quoinlaw01_BitsStay.mono_l : ∀ k, (∀ y0 y1 y2 y3 y4 y5 y6 y7, LeO (quoinlaw01_BitsStay.j0 k y0 y1 y2 y3 y4 y5 y6 y7) (quoinlaw01_BitsStay.j0 (k + 1) y0 y1 y2 y3 y4 y5 y6 y7)) ∧ (∀ y0 y1 y2 y3 y4 y5, LeO (quoinlaw01_BitsStay.j1 k y0 y1 y2 y3 y4 y5) (quoinlaw01_BitsStay.j1 (k + 1) y0 y1 y2 y3 y4 y5))
  | 0 => ⟨fun _ _ _ _ _ _ _ _ r h => by simp [quoinlaw01_BitsStay.j0] at h, fun _ _ _ _ _ _ r h => by simp [quoinlaw01_BitsStay.j1] at h⟩
  | k + 1 => by
    obtain ⟨ih0, ih1⟩ := quoinlaw01_BitsStay.mono_l k
    refine ⟨?_, ?_⟩
    · intro y0 y1 y2 y3 y4 y5 y6 y7
      unfold quoinlaw01_BitsStay.j0
      repeat' first
      | (with_reducible exact ih0 _ _ _ _ _ _ _ _)
      | (with_reducible exact ih1 _ _ _ _ _ _)
      | (with_reducible exact LeO.refl _)
      | (with_reducible exact LeO.none _)
      | (with_reducible refine LeO.ite ?_ ?_)
      | (with_reducible refine LeO.bind ?_ (fun _ => ?_))
      | exact ih0 _ _ _ _ _ _ _ _
      | exact ih1 _ _ _ _ _ _
      | exact LeO.none _
      | refine LeO.ite ?_ ?_
      | refine LeO.bind ?_ (fun _ => ?_)
    · intro y0 y1 y2 y3 y4 y5
      unfold quoinlaw01_BitsStay.j1
      repeat' first
      | (with_reducible exact ih0 _ _ _ _ _ _ _ _)
      | (with_reducible exact ih1 _ _ _ _ _ _)
      | (with_reducible exact LeO.refl _)
      | (with_reducible exact LeO.none _)
      | (with_reducible refine LeO.ite ?_ ?_)
      | (with_reducible refine LeO.bind ?_ (fun _ => ?_))
      | exact ih0 _ _ _ _ _ _ _ _
      | exact ih1 _ _ _ _ _ _
      | exact LeO.none _
      | refine LeO.ite ?_ ?_
      | refine LeO.bind ?_ (fun _ => ?_)
theorem quoinlaw01_BitsStay.mono : ∀ a0 a1 a2 a3 a4 k, LeO (quoinlaw01_BitsStay.f k a0 a1 a2 a3 a4) (quoinlaw01_BitsStay.f (k + 1) a0 a1 a2 a3 a4) := by
  intro a0 a1 a2 a3 a4 k
  obtain ⟨ih0, ih1⟩ := quoinlaw01_BitsStay.mono_l k
  unfold quoinlaw01_BitsStay.f
  repeat' first
      | (with_reducible exact ih0 _ _ _ _ _ _ _ _)
      | (with_reducible exact ih1 _ _ _ _ _ _)
      | (with_reducible exact LeO.refl _)
      | (with_reducible exact LeO.none _)
      | (with_reducible refine LeO.ite ?_ ?_)
      | (with_reducible refine LeO.bind ?_ (fun _ => ?_))
      | exact ih0 _ _ _ _ _ _ _ _
      | exact ih1 _ _ _ _ _ _
      | exact LeO.none _
      | refine LeO.ite ?_ ?_
      | refine LeO.bind ?_ (fun _ => ?_)
set_option maxHeartbeats 8000000 in
set_option maxRecDepth 100000 in
theorem quoinlaw01_BitsStay.calls (k : Nat) (a0 : Int) (a1 : Int) (a2 : Int) (a3 : Int) (a4 : Int) (r : Bool) (w : World) (h : quoinlaw01_BitsStay.f k a0 a1 a2 a3 a4 = some r) :
    Calls Try.prog 3 #[.int .u32 a0, .int .i64 a1, .int .i64 a2, .int .u32 a3, .int .i64 a4] w fun e w' => e = .returned (.bool r) ∧ Drawn0 w w' := by
  have H : ((quoinlaw01_alive.f).bind fun t113 => ((bits_Put.f a0 a1 a2 a3).bind fun bt114 => (if bt114.2 = 0 then (quoinlaw01_BitsStay.j0 k a0 a1 a2 a3 a4 t113 bt114.1 (!t113)) else (quoinlaw01_BitsStay.j0 k a0 a1 a2 a3 a4 t113 bt114.1 true)))) = some r := h
  clear h
  replace H := Option.bind_eq_some_iff.mp H
  obtain ⟨t113, A60, H⟩ := H
  replace H : ((bits_Put.f a0 a1 a2 a3).bind fun bt114 => (if bt114.2 = 0 then (quoinlaw01_BitsStay.j0 k a0 a1 a2 a3 a4 t113 bt114.1 (!t113)) else (quoinlaw01_BitsStay.j0 k a0 a1 a2 a3 a4 t113 bt114.1 true))) = some r := H
  have A6 := Aside0.mk A60
  clear A60
  replace H := Option.bind_eq_some_iff.mp H
  obtain ⟨⟨t114, t115⟩, A70, H⟩ := H
  replace H : (if t115 = 0 then (quoinlaw01_BitsStay.j0 k a0 a1 a2 a3 a4 t113 t114 (!t113)) else (quoinlaw01_BitsStay.j0 k a0 a1 a2 a3 a4 t113 t114 true)) = some r := H
  have A7 := Aside0.mk A70
  clear A70
  have HC8 := Aside0.mk H
  clear H
  go_enter Try.func3, Try.ntmps3
  go_upto_region 3 with (first | ((with_reducible refine gate_callee (f := 9) rfl ?_); refine goesL_ (some 21) rfl rfl Try.func9 (by kernel_rfl) rfl #[] rfl (by (try simp only [List.map_toArray, List.map_cons, List.map_nil]); first | done | rfl | (simp only [List.length_drop, List.length_take]; rfl)) ?_; (with_reducible refine (quoinlaw01_alive.calls  t113 _ A6.out).mono ?_); rintro e w' ⟨rfl, ⟨nd, rfl⟩⟩; refine ⟨_, rfl, ?_⟩) | ((with_reducible refine gate_callee (f := 10) rfl ?_); refine goesL_ (some 27) rfl rfl Try.func10 (by kernel_rfl) rfl #[.int .u32 a0, .int .i64 a1, .int .i64 a2, .int .u32 a3] rfl (by (try simp only [List.map_toArray, List.map_cons, List.map_nil]); first | done | rfl | (simp only [List.length_drop, List.length_take]; rfl)) ?_; (with_reducible refine (bits_Put.calls a0 a1 a2 a3 t114 t115 _ A7.out).mono ?_); rintro e w' ⟨rfl, ⟨nd, rfl⟩⟩; refine ⟨_, rfl, ?_⟩))
  (try simp only [Act.put, List.setIfInBounds_toArray, List.set_cons_zero, List.set_cons_succ])
  go_cut [35] (fun v35 wc => ∃ (kq : Nat) (x35_7 : Bool), v35 = .bool x35_7 ∧ Aside0 (quoinlaw01_BitsStay.j0 kq a0 a1 a2 a3 a4 t113 t114 x35_7 = some r) ∧ Aside0 (kq ≤ k) ∧ Drawn0 w wc)
  case first =>
    have H := HC8.out
    clear HC8
    by_cases c9 : t115 = 0
    · rw [if_pos c9] at H
      have c9b0 : (t115 == 0) = true := beq_iff_eq.mpr c9
      have c9b1 : (t115 != 0) = false := bne_eq_false_iff_eq.mpr c9
      clear c9
      (first | rw [c9b0] | (simp only [i64_w, i32_w]; rw [c9b0]) | skip)
      have H' := Aside0.mk H
      clear H
      go_wp2
      go_meet
      case rel => exact ⟨_, (!t113), (by first | rfl | (simp; done) | (simp only [i64_w, i32_w]; first | done | rfl | (simp; done)) | (simp [*]; done)), H', ⟨by first | omega | exact Nat.le_refl _⟩, by repeat (first | exact Drawn0.refl _ | apply Drawn0.step)⟩
    · rw [if_neg c9] at H
      have c9b0 : (t115 == 0) = false := beq_eq_false_iff_ne.mpr c9
      have c9b1 : (t115 != 0) = true := bne_iff_ne.mpr c9
      (first | rw [c9b0] | (simp only [i64_w, i32_w]; rw [c9b0]) | skip)
      have H' := Aside0.mk H
      clear H
      go_wp2
      go_meet
      case rel => exact ⟨_, (true), (by first | rfl | (simp; done) | (simp only [i64_w, i32_w]; first | done | rfl | (simp; done)) | (simp [*]; done)), H', ⟨by first | omega | exact Nat.le_refl _⟩, by repeat (first | exact Drawn0.refl _ | apply Drawn0.step)⟩
  case rest =>
    clear HC8
    try clear c1
    try clear p2
    try clear c3
    try clear c9
    try clear c9b0
    try clear c9b1
    obtain ⟨kq, x35_7, rfl, HA, HJ7, ⟨mc7, rfl⟩⟩ := hcut
    cases kq with
    | zero => exact absurd HA.out (by simp [quoinlaw01_BitsStay.j0])
    | succ kj7 =>
      have H := HA.out
      clear HA
      simp only [quoinlaw01_BitsStay.j0] at H
      by_cases c10 : x35_7 = true
      · subst c10
        have H1 : (if t113 = true then (some (t114 == 0)) else (some false)) = some r := by rw [if_pos rfl] at H; exact H
        clear H
        have H := H1
        clear H1
        by_cases c11 : t113 = true
        · subst c11
          have H1 : (some (t114 == 0)) = some r := by rw [if_pos rfl] at H; exact H
          clear H
          have H := H1
          clear H1
          obtain rfl := Option.some.inj H
          go_wp2
          go_ret
          exact ⟨by first | rfl | (simp; done) | (simp only [i64_w, i32_w]; first | done | rfl | (simp; done)) | (simp [*]; done), by repeat (first | exact Drawn0.refl _ | apply Drawn0.step)⟩
        · replace c11 := Bool.eq_false_iff.mpr c11
          subst c11
          have H1 : (some false) = some r := by rw [if_neg (show ¬ (false = true) by decide)] at H; exact H
          clear H
          have H := H1
          clear H1
          obtain rfl := Option.some.inj H
          go_wp2
          go_ret
          exact ⟨by first | rfl | (simp; done) | (simp only [i64_w, i32_w]; first | done | rfl | (simp; done)) | (simp [*]; done), by repeat (first | exact Drawn0.refl _ | apply Drawn0.step)⟩
      · replace c10 := Bool.eq_false_iff.mpr c10
        subst c10
        have H1 : ((bits_Take.f t114 a1 a2).bind fun bt116 => (if bt116.2 = 0 then (quoinlaw01_BitsStay.j1 kj7 a0 a1 a2 a4 t114 (bt116.1 != a3)) else (quoinlaw01_BitsStay.j1 kj7 a0 a1 a2 a4 t114 true))) = some r := by rw [if_neg (show ¬ (false = true) by decide)] at H; exact H
        clear H
        have H := H1
        clear H1
        replace H := Option.bind_eq_some_iff.mp H
        obtain ⟨⟨t116, t117⟩, A120, H⟩ := H
        replace H : (if t117 = 0 then (quoinlaw01_BitsStay.j1 kj7 a0 a1 a2 a4 t114 (t116 != a3)) else (quoinlaw01_BitsStay.j1 kj7 a0 a1 a2 a4 t114 true)) = some r := H
        have A12 := Aside0.mk A120
        clear A120
        have HC13 := Aside0.mk H
        clear H
        go_upto_region 6 with (first | ((with_reducible refine gate_callee (f := 11) rfl ?_); refine goesL_ (some 45) rfl rfl Try.func11 (by kernel_rfl) rfl #[.int .u32 t114, .int .i64 a1, .int .i64 a2] rfl (by (try simp only [List.map_toArray, List.map_cons, List.map_nil]); first | done | rfl | (simp only [List.length_drop, List.length_take]; rfl)) ?_; (with_reducible refine (bits_Take.calls t114 a1 a2 t116 t117 _ A12.out).mono ?_); rintro e w' ⟨rfl, ⟨nd, rfl⟩⟩; refine ⟨_, rfl, ?_⟩))
        (try simp only [Act.put, List.setIfInBounds_toArray, List.set_cons_zero, List.set_cons_succ])
        go_cut [54] (fun v54 wc => ∃ (kq : Nat) (x54_12 : Bool), v54 = .bool x54_12 ∧ Aside0 (quoinlaw01_BitsStay.j1 kq a0 a1 a2 a4 t114 x54_12 = some r) ∧ Aside0 (kq ≤ kj7) ∧ Drawn0 w wc)
        case first =>
          have H := HC13.out
          clear HC13
          by_cases c14 : t117 = 0
          · rw [if_pos c14] at H
            have c14b0 : (t117 == 0) = true := beq_iff_eq.mpr c14
            have c14b1 : (t117 != 0) = false := bne_eq_false_iff_eq.mpr c14
            clear c14
            (first | rw [c14b0] | (simp only [i64_w, i32_w]; rw [c14b0]) | skip)
            have H' := Aside0.mk H
            clear H
            go_wp2
            go_meet
            case rel => exact ⟨_, ((t116 != a3)), (by first | rfl | (simp; done) | (simp only [i64_w, i32_w]; first | done | rfl | (simp; done)) | (simp [*]; done)), H', ⟨by have := HJ7.out; first | omega | exact Nat.le_refl _⟩, by repeat (first | exact Drawn0.refl _ | apply Drawn0.step)⟩
          · rw [if_neg c14] at H
            have c14b0 : (t117 == 0) = false := beq_eq_false_iff_ne.mpr c14
            have c14b1 : (t117 != 0) = true := bne_iff_ne.mpr c14
            (first | rw [c14b0] | (simp only [i64_w, i32_w]; rw [c14b0]) | skip)
            have H' := Aside0.mk H
            clear H
            go_wp2
            go_meet
            case rel => exact ⟨_, (true), (by first | rfl | (simp; done) | (simp only [i64_w, i32_w]; first | done | rfl | (simp; done)) | (simp [*]; done)), H', ⟨by have := HJ7.out; first | omega | exact Nat.le_refl _⟩, by repeat (first | exact Drawn0.refl _ | apply Drawn0.step)⟩
        case rest =>
          clear HC13
          try clear c1
          try clear p2
          try clear c3
          try clear c7
          try clear c9
          try clear c9b0
          try clear c9b1
          try clear c10
          try clear c11
          try clear c14
          try clear c14b0
          try clear c14b1
          try clear p2
          obtain ⟨kq, x54_12, rfl, HA, HJ12, ⟨mc12, rfl⟩⟩ := hcut
          cases kq with
          | zero => exact absurd HA.out (by simp [quoinlaw01_BitsStay.j1])
          | succ kj12 =>
            have H := HA.out
            clear HA
            simp only [quoinlaw01_BitsStay.j1] at H
            by_cases c15 : x54_12 = true
            · subst c15
              have H1 : (some false) = some r := by rw [if_pos rfl] at H; exact H
              clear H
              have H := H1
              clear H1
              obtain rfl := Option.some.inj H
              go_wp2
              go_ret
              exact ⟨by first | rfl | (simp; done) | (simp only [i64_w, i32_w]; first | done | rfl | (simp; done)) | (simp [*]; done), by repeat (first | exact Drawn0.refl _ | apply Drawn0.step)⟩
            · replace c15 := Bool.eq_false_iff.mpr c15
              subst c15
              have H1 : ((bits_Take.f a0 a4 1).bind fun bt118 => ((bits_Take.f t114 a4 1).bind fun bt120 => (if a4 ≥ a1 then (if bt118.2 = bt120.2 then (if bt118.2 = 0 then (if a4 < (wrap64 (a1 + a2)) then (some true) else (some (bt118.1 == bt120.1))) else (some true)) else (some false)) else (if bt118.2 = bt120.2 then (if bt118.2 = 0 then (some (bt118.1 == bt120.1)) else (some true)) else (some false))))) = some r := by rw [if_neg (show ¬ (false = true) by decide)] at H; exact H
              clear H
              have H := H1
              clear H1
              replace H := Option.bind_eq_some_iff.mp H
              obtain ⟨⟨t118, t119⟩, A160, H⟩ := H
              replace H : ((bits_Take.f t114 a4 1).bind fun bt120 => (if a4 ≥ a1 then (if t119 = bt120.2 then (if t119 = 0 then (if a4 < (wrap64 (a1 + a2)) then (some true) else (some (t118 == bt120.1))) else (some true)) else (some false)) else (if t119 = bt120.2 then (if t119 = 0 then (some (t118 == bt120.1)) else (some true)) else (some false)))) = some r := H
              have A16 := Aside0.mk A160
              clear A160
              replace H := Option.bind_eq_some_iff.mp H
              obtain ⟨⟨t120, t121⟩, A170, H⟩ := H
              replace H : (if a4 ≥ a1 then (if t119 = t121 then (if t119 = 0 then (if a4 < (wrap64 (a1 + a2)) then (some true) else (some (t118 == t120))) else (some true)) else (some false)) else (if t119 = t121 then (if t119 = 0 then (some (t118 == t120)) else (some true)) else (some false))) = some r := H
              have A17 := Aside0.mk A170
              clear A170
              by_cases c18 : a4 ≥ a1
              · rw [if_pos c18] at H
                have c18b0 : decide (a1 ≤ a4) = true := decide_eq_true c18
                clear c18
                by_cases c19 : t119 = t121
                · rw [if_pos c19] at H
                  have c19b0 : (t119 == t121) = true := beq_iff_eq.mpr c19
                  have c19b1 : (t119 != t121) = false := bne_eq_false_iff_eq.mpr c19
                  clear c19
                  by_cases c20 : t119 = 0
                  · rw [if_pos c20] at H
                    have c20b0 : (t119 == 0) = true := beq_iff_eq.mpr c20
                    have c20b1 : (t119 != 0) = false := bne_eq_false_iff_eq.mpr c20
                    clear c20
                    by_cases c21 : a4 < (wrap64 (a1 + a2))
                    · rw [if_pos c21] at H
                      have c21b0 : decide (a4 < (wrap64 (a1 + a2))) = true := decide_eq_true c21
                      clear c21
                      obtain rfl := Option.some.inj H
                      go_wp2_with (first | ((with_reducible refine gate_callee (f := 11) rfl ?_); refine goesL_ (some 58) rfl rfl Try.func11 (by kernel_rfl) rfl #[.int .u32 a0, .int .i64 a4, .int .i64 1] rfl (by (try simp only [List.map_toArray, List.map_cons, List.map_nil]); first | done | rfl | (simp only [List.length_drop, List.length_take]; rfl)) ?_; (with_reducible refine (bits_Take.calls a0 a4 1 t118 t119 _ A16.out).mono ?_); rintro e w' ⟨rfl, ⟨nd, rfl⟩⟩; refine ⟨_, rfl, ?_⟩) | ((with_reducible refine gate_callee (f := 11) rfl ?_); refine goesL_ (some 64) rfl rfl Try.func11 (by kernel_rfl) rfl #[.int .u32 t114, .int .i64 a4, .int .i64 1] rfl (by (try simp only [List.map_toArray, List.map_cons, List.map_nil]); first | done | rfl | (simp only [List.length_drop, List.length_take]; rfl)) ?_; (with_reducible refine (bits_Take.calls t114 a4 1 t120 t121 _ A17.out).mono ?_); rintro e w' ⟨rfl, ⟨nd, rfl⟩⟩; refine ⟨_, rfl, ?_⟩))
                      go_ret
                      exact ⟨by first | rfl | (simp; done) | (simp only [i64_w, i32_w]; first | done | rfl | (simp; done)) | (simp [*]; done), by repeat (first | exact Drawn0.refl _ | apply Drawn0.step)⟩
                    · rw [if_neg c21] at H
                      have c21b0 : decide (a4 < (wrap64 (a1 + a2))) = false := decide_eq_false c21
                      clear c21
                      obtain rfl := Option.some.inj H
                      go_wp2_with (first | ((with_reducible refine gate_callee (f := 11) rfl ?_); refine goesL_ (some 58) rfl rfl Try.func11 (by kernel_rfl) rfl #[.int .u32 a0, .int .i64 a4, .int .i64 1] rfl (by (try simp only [List.map_toArray, List.map_cons, List.map_nil]); first | done | rfl | (simp only [List.length_drop, List.length_take]; rfl)) ?_; (with_reducible refine (bits_Take.calls a0 a4 1 t118 t119 _ A16.out).mono ?_); rintro e w' ⟨rfl, ⟨nd, rfl⟩⟩; refine ⟨_, rfl, ?_⟩) | ((with_reducible refine gate_callee (f := 11) rfl ?_); refine goesL_ (some 64) rfl rfl Try.func11 (by kernel_rfl) rfl #[.int .u32 t114, .int .i64 a4, .int .i64 1] rfl (by (try simp only [List.map_toArray, List.map_cons, List.map_nil]); first | done | rfl | (simp only [List.length_drop, List.length_take]; rfl)) ?_; (with_reducible refine (bits_Take.calls t114 a4 1 t120 t121 _ A17.out).mono ?_); rintro e w' ⟨rfl, ⟨nd, rfl⟩⟩; refine ⟨_, rfl, ?_⟩))
                      go_ret
                      exact ⟨by first | rfl | (simp; done) | (simp only [i64_w, i32_w]; first | done | rfl | (simp; done)) | (simp [*]; done), by repeat (first | exact Drawn0.refl _ | apply Drawn0.step)⟩
                  · rw [if_neg c20] at H
                    have c20b0 : (t119 == 0) = false := beq_eq_false_iff_ne.mpr c20
                    have c20b1 : (t119 != 0) = true := bne_iff_ne.mpr c20
                    obtain rfl := Option.some.inj H
                    go_wp2_with (first | ((with_reducible refine gate_callee (f := 11) rfl ?_); refine goesL_ (some 58) rfl rfl Try.func11 (by kernel_rfl) rfl #[.int .u32 a0, .int .i64 a4, .int .i64 1] rfl (by (try simp only [List.map_toArray, List.map_cons, List.map_nil]); first | done | rfl | (simp only [List.length_drop, List.length_take]; rfl)) ?_; (with_reducible refine (bits_Take.calls a0 a4 1 t118 t119 _ A16.out).mono ?_); rintro e w' ⟨rfl, ⟨nd, rfl⟩⟩; refine ⟨_, rfl, ?_⟩) | ((with_reducible refine gate_callee (f := 11) rfl ?_); refine goesL_ (some 64) rfl rfl Try.func11 (by kernel_rfl) rfl #[.int .u32 t114, .int .i64 a4, .int .i64 1] rfl (by (try simp only [List.map_toArray, List.map_cons, List.map_nil]); first | done | rfl | (simp only [List.length_drop, List.length_take]; rfl)) ?_; (with_reducible refine (bits_Take.calls t114 a4 1 t120 t121 _ A17.out).mono ?_); rintro e w' ⟨rfl, ⟨nd, rfl⟩⟩; refine ⟨_, rfl, ?_⟩))
                    go_ret
                    exact ⟨by first | rfl | (simp; done) | (simp only [i64_w, i32_w]; first | done | rfl | (simp; done)) | (simp [*]; done), by repeat (first | exact Drawn0.refl _ | apply Drawn0.step)⟩
                · rw [if_neg c19] at H
                  have c19b0 : (t119 == t121) = false := beq_eq_false_iff_ne.mpr c19
                  have c19b1 : (t119 != t121) = true := bne_iff_ne.mpr c19
                  obtain rfl := Option.some.inj H
                  go_wp2_with (first | ((with_reducible refine gate_callee (f := 11) rfl ?_); refine goesL_ (some 58) rfl rfl Try.func11 (by kernel_rfl) rfl #[.int .u32 a0, .int .i64 a4, .int .i64 1] rfl (by (try simp only [List.map_toArray, List.map_cons, List.map_nil]); first | done | rfl | (simp only [List.length_drop, List.length_take]; rfl)) ?_; (with_reducible refine (bits_Take.calls a0 a4 1 t118 t119 _ A16.out).mono ?_); rintro e w' ⟨rfl, ⟨nd, rfl⟩⟩; refine ⟨_, rfl, ?_⟩) | ((with_reducible refine gate_callee (f := 11) rfl ?_); refine goesL_ (some 64) rfl rfl Try.func11 (by kernel_rfl) rfl #[.int .u32 t114, .int .i64 a4, .int .i64 1] rfl (by (try simp only [List.map_toArray, List.map_cons, List.map_nil]); first | done | rfl | (simp only [List.length_drop, List.length_take]; rfl)) ?_; (with_reducible refine (bits_Take.calls t114 a4 1 t120 t121 _ A17.out).mono ?_); rintro e w' ⟨rfl, ⟨nd, rfl⟩⟩; refine ⟨_, rfl, ?_⟩))
                  go_ret
                  exact ⟨by first | rfl | (simp; done) | (simp only [i64_w, i32_w]; first | done | rfl | (simp; done)) | (simp [*]; done), by repeat (first | exact Drawn0.refl _ | apply Drawn0.step)⟩
              · rw [if_neg c18] at H
                have c18b0 : decide (a1 ≤ a4) = false := decide_eq_false c18
                clear c18
                by_cases c22 : t119 = t121
                · rw [if_pos c22] at H
                  have c22b0 : (t119 == t121) = true := beq_iff_eq.mpr c22
                  have c22b1 : (t119 != t121) = false := bne_eq_false_iff_eq.mpr c22
                  clear c22
                  by_cases c23 : t119 = 0
                  · rw [if_pos c23] at H
                    have c23b0 : (t119 == 0) = true := beq_iff_eq.mpr c23
                    have c23b1 : (t119 != 0) = false := bne_eq_false_iff_eq.mpr c23
                    clear c23
                    obtain rfl := Option.some.inj H
                    go_wp2_with (first | ((with_reducible refine gate_callee (f := 11) rfl ?_); refine goesL_ (some 58) rfl rfl Try.func11 (by kernel_rfl) rfl #[.int .u32 a0, .int .i64 a4, .int .i64 1] rfl (by (try simp only [List.map_toArray, List.map_cons, List.map_nil]); first | done | rfl | (simp only [List.length_drop, List.length_take]; rfl)) ?_; (with_reducible refine (bits_Take.calls a0 a4 1 t118 t119 _ A16.out).mono ?_); rintro e w' ⟨rfl, ⟨nd, rfl⟩⟩; refine ⟨_, rfl, ?_⟩) | ((with_reducible refine gate_callee (f := 11) rfl ?_); refine goesL_ (some 64) rfl rfl Try.func11 (by kernel_rfl) rfl #[.int .u32 t114, .int .i64 a4, .int .i64 1] rfl (by (try simp only [List.map_toArray, List.map_cons, List.map_nil]); first | done | rfl | (simp only [List.length_drop, List.length_take]; rfl)) ?_; (with_reducible refine (bits_Take.calls t114 a4 1 t120 t121 _ A17.out).mono ?_); rintro e w' ⟨rfl, ⟨nd, rfl⟩⟩; refine ⟨_, rfl, ?_⟩))
                    go_ret
                    exact ⟨by first | rfl | (simp; done) | (simp only [i64_w, i32_w]; first | done | rfl | (simp; done)) | (simp [*]; done), by repeat (first | exact Drawn0.refl _ | apply Drawn0.step)⟩
                  · rw [if_neg c23] at H
                    have c23b0 : (t119 == 0) = false := beq_eq_false_iff_ne.mpr c23
                    have c23b1 : (t119 != 0) = true := bne_iff_ne.mpr c23
                    obtain rfl := Option.some.inj H
                    go_wp2_with (first | ((with_reducible refine gate_callee (f := 11) rfl ?_); refine goesL_ (some 58) rfl rfl Try.func11 (by kernel_rfl) rfl #[.int .u32 a0, .int .i64 a4, .int .i64 1] rfl (by (try simp only [List.map_toArray, List.map_cons, List.map_nil]); first | done | rfl | (simp only [List.length_drop, List.length_take]; rfl)) ?_; (with_reducible refine (bits_Take.calls a0 a4 1 t118 t119 _ A16.out).mono ?_); rintro e w' ⟨rfl, ⟨nd, rfl⟩⟩; refine ⟨_, rfl, ?_⟩) | ((with_reducible refine gate_callee (f := 11) rfl ?_); refine goesL_ (some 64) rfl rfl Try.func11 (by kernel_rfl) rfl #[.int .u32 t114, .int .i64 a4, .int .i64 1] rfl (by (try simp only [List.map_toArray, List.map_cons, List.map_nil]); first | done | rfl | (simp only [List.length_drop, List.length_take]; rfl)) ?_; (with_reducible refine (bits_Take.calls t114 a4 1 t120 t121 _ A17.out).mono ?_); rintro e w' ⟨rfl, ⟨nd, rfl⟩⟩; refine ⟨_, rfl, ?_⟩))
                    go_ret
                    exact ⟨by first | rfl | (simp; done) | (simp only [i64_w, i32_w]; first | done | rfl | (simp; done)) | (simp [*]; done), by repeat (first | exact Drawn0.refl _ | apply Drawn0.step)⟩
                · rw [if_neg c22] at H
                  have c22b0 : (t119 == t121) = false := beq_eq_false_iff_ne.mpr c22
                  have c22b1 : (t119 != t121) = true := bne_iff_ne.mpr c22
                  obtain rfl := Option.some.inj H
                  go_wp2_with (first | ((with_reducible refine gate_callee (f := 11) rfl ?_); refine goesL_ (some 58) rfl rfl Try.func11 (by kernel_rfl) rfl #[.int .u32 a0, .int .i64 a4, .int .i64 1] rfl (by (try simp only [List.map_toArray, List.map_cons, List.map_nil]); first | done | rfl | (simp only [List.length_drop, List.length_take]; rfl)) ?_; (with_reducible refine (bits_Take.calls a0 a4 1 t118 t119 _ A16.out).mono ?_); rintro e w' ⟨rfl, ⟨nd, rfl⟩⟩; refine ⟨_, rfl, ?_⟩) | ((with_reducible refine gate_callee (f := 11) rfl ?_); refine goesL_ (some 64) rfl rfl Try.func11 (by kernel_rfl) rfl #[.int .u32 t114, .int .i64 a4, .int .i64 1] rfl (by (try simp only [List.map_toArray, List.map_cons, List.map_nil]); first | done | rfl | (simp only [List.length_drop, List.length_take]; rfl)) ?_; (with_reducible refine (bits_Take.calls t114 a4 1 t120 t121 _ A17.out).mono ?_); rintro e w' ⟨rfl, ⟨nd, rfl⟩⟩; refine ⟨_, rfl, ?_⟩))
                  go_ret
                  exact ⟨by first | rfl | (simp; done) | (simp only [i64_w, i32_w]; first | done | rfl | (simp; done)) | (simp [*]; done), by repeat (first | exact Drawn0.refl _ | apply Drawn0.step)⟩

/-- THE ONE PURE STATEMENT of quoinlaw01_BitsStay: yours. -/
def quoinlaw01_BitsStay.Pure : Prop := ∀ (a0 : Int) (a1 : Int) (a2 : Int) (a3 : Int) (a4 : Int), (Lit.int .u32 a0).wf = true → (Lit.int .i64 a1).wf = true → (Lit.int .i64 a2).wf = true → (Lit.int .u32 a3).wf = true → (Lit.int .i64 a4).wf = true → ∃ k, quoinlaw01_BitsStay.f k a0 a1 a2 a3 a4 = some true
theorem quoinlaw01_BitsStay.walk (P : quoinlaw01_BitsStay.Pure) (a0 : Int) (a1 : Int) (a2 : Int) (a3 : Int) (a4 : Int) (w : World) (w0 : (Lit.int .u32 a0).wf = true) (w1 : (Lit.int .i64 a1).wf = true) (w2 : (Lit.int .i64 a2).wf = true) (w3 : (Lit.int .u32 a3).wf = true) (w4 : (Lit.int .i64 a4).wf = true) :
    Calls Try.prog 3 #[.int .u32 a0, .int .i64 a1, .int .i64 a2, .int .u32 a3, .int .i64 a4] w fun e w' => e = .returned (.bool true) ∧ Below w.heap.size w w' := by
  obtain ⟨k, h⟩ := P a0 a1 a2 a3 a4 w0 w1 w2 w3 w4
  refine (quoinlaw01_BitsStay.calls k a0 a1 a2 a3 a4 true w h).mono ?_
  rintro e w' ⟨rfl, hd⟩
  exact ⟨rfl, hd.below⟩

end Go.Proofs.Ytpijiohiohiilaa.B
