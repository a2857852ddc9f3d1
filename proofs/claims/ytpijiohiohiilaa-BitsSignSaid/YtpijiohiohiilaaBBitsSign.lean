/- Walks and rows of the laws of quoin: each Lean function here tells just what the Go function of its name answers. Conditions: none but those that a row itself names. Written by a program of this session (wip/reprint.py) over the kit print, and turned by it. -/
import Derived.Test.YtpijiohiohiilaaB0
import Derived.Test.YtpijiohiohiilaaBBits
import Derived.Test.YtpijiohiohiilaaBQuoinlaw01
namespace Go.Proofs.Ytpijiohiohiilaa.B
open Go.RowKit Go.Proofs.YtpijiohiohiilaaW.PrintWords Go.Proofs.YtpijiohiohiilaaW.PrintLast Go.Proofs.YtpijiohiohiilaaW.PrintMore
attribute [local go_sem] max2_int min2_int max_two min_two max_three min_three max_four min_four   -- for this text's walks alone
set_option linter.unusedVariables false
set_option linter.unusedSimpArgs false

/-! ### quoinlaw01_BitsSign: function 5 -/
def quoinlaw01_BitsSign.j0 : Nat → Int → Int → Bool → Bool → Option (Bool)
  | 0, _, _, _, _ => none
  | k + 1, x0, x1, x5, x19 => if x19 = true then (some x5) else (if 0 ≤ (wrap64 (32 - x1)) then ((bits_Sign.f (shr .u32 (shl .u32 ((x0) % 4294967296) (wrap64 (32 - x1))) (wrap64 (32 - x1))) x1).bind fun bt152 => (if bt152.2 = 0 then ((bits_Fits.f x0 x1).bind fun t154 => (some ((bt152.1 == x0) == t154))) else (some false))) else (none))
def quoinlaw01_BitsSign.f (k : Nat) (a0 : Int) (a1 : Int) : Option (Bool) := (quoinlaw01_alive.f).bind fun t151 => (if a1 < 1 then (quoinlaw01_BitsSign.j0 k a0 a1 t151 true) else (if a1 > 32 then (quoinlaw01_BitsSign.j0 k a0 a1 t151 true) else (quoinlaw01_BitsSign.j0 k a0 a1 t151 (!t151))))
theorem quoinlaw01_BitsSign.mono_l : ∀ k, (∀ y0 y1 y2 y3, LeO (quoinlaw01_BitsSign.j0 k y0 y1 y2 y3) (quoinlaw01_BitsSign.j0 (k + 1) y0 y1 y2 y3))
  | 0 => fun _ _ _ _ r h => by simp [quoinlaw01_BitsSign.j0] at h
  | k + 1 => by
    have ih0 := quoinlaw01_BitsSign.mono_l k
    · intro y0 y1 y2 y3
      unfold quoinlaw01_BitsSign.j0
      repeat' first
      | (with_reducible exact ih0 _ _ _ _)
      | (with_reducible exact LeO.refl _)
      | (with_reducible exact LeO.none _)
      | (with_reducible refine LeO.ite ?_ ?_)
      | (with_reducible refine LeO.bind ?_ (fun _ => ?_))
      | exact ih0 _ _ _ _
      | exact LeO.none _
      | refine LeO.ite ?_ ?_
      | refine LeO.bind ?_ (fun _ => ?_)
theorem quoinlaw01_BitsSign.mono : ∀ a0 a1 k, LeO (quoinlaw01_BitsSign.f k a0 a1) (quoinlaw01_BitsSign.f (k + 1) a0 a1) := by
  intro a0 a1 k
  have ih0 := quoinlaw01_BitsSign.mono_l k
  unfold quoinlaw01_BitsSign.f
  repeat' first
      | (with_reducible exact ih0 _ _ _ _)
      | (with_reducible exact LeO.refl _)
      | (with_reducible exact LeO.none _)
      | (with_reducible refine LeO.ite ?_ ?_)
      | (with_reducible refine LeO.bind ?_ (fun _ => ?_))
      | exact ih0 _ _ _ _
      | exact LeO.none _
      | refine LeO.ite ?_ ?_
      | refine LeO.bind ?_ (fun _ => ?_)
set_option maxHeartbeats 8000000 in
set_option maxRecDepth 100000 in
theorem quoinlaw01_BitsSign.calls (k : Nat) (a0 : Int) (a1 : Int) (r : Bool) (w : World) (h : quoinlaw01_BitsSign.f k a0 a1 = some r) :
    Calls Try.prog 5 #[.int .i64 a0, .int .i64 a1] w fun e w' => e = .returned (.bool r) ∧ Drawn0 w w' := by
  have H : ((quoinlaw01_alive.f).bind fun t151 => (if a1 < 1 then (quoinlaw01_BitsSign.j0 k a0 a1 t151 true) else (if a1 > 32 then (quoinlaw01_BitsSign.j0 k a0 a1 t151 true) else (quoinlaw01_BitsSign.j0 k a0 a1 t151 (!t151))))) = some r := h
  clear h
  replace H := Option.bind_eq_some_iff.mp H
  obtain ⟨t151, A30, H⟩ := H
  replace H : (if a1 < 1 then (quoinlaw01_BitsSign.j0 k a0 a1 t151 true) else (if a1 > 32 then (quoinlaw01_BitsSign.j0 k a0 a1 t151 true) else (quoinlaw01_BitsSign.j0 k a0 a1 t151 (!t151)))) = some r := H
  have A3 := Aside0.mk A30
  clear A30
  have HC4 := Aside0.mk H
  clear H
  go_enter Try.func5, Try.ntmps5
  go_upto_region 2 with (first | ((with_reducible refine gate_callee (f := 9) rfl ?_); refine goesL_ (some 9) rfl rfl Try.func9 (by kernel_rfl) rfl #[] rfl (by (try simp only [List.map_toArray, List.map_cons, List.map_nil]); first | done | rfl | (simp only [List.length_drop, List.length_take]; rfl)) ?_; (with_reducible refine (quoinlaw01_alive.calls  t151 _ A3.out).mono ?_); rintro e w' ⟨rfl, ⟨nd, rfl⟩⟩; refine ⟨_, rfl, ?_⟩))
  (try simp only [Act.put, List.setIfInBounds_toArray, List.set_cons_zero, List.set_cons_succ])
  go_cut [19] (fun v19 wc => ∃ (kq : Nat) (x19_3 : Bool), v19 = .bool x19_3 ∧ Aside0 (quoinlaw01_BitsSign.j0 kq a0 a1 t151 x19_3 = some r) ∧ Aside0 (kq ≤ k) ∧ Drawn0 w wc)
  case first =>
    have H := HC4.out
    clear HC4
    by_cases c5 : a1 < 1
    · rw [if_pos c5] at H
      have c5b0 : decide (a1 < 1) = true := decide_eq_true c5
      clear c5
      (first | rw [c5b0] | (simp only [i64_w, i32_w]; rw [c5b0]) | skip)
      have H' := Aside0.mk H
      clear H
      go_wp2
      go_meet
      case rel => exact ⟨_, (true), (by first | rfl | (simp; done) | (simp only [i64_w, i32_w]; first | done | rfl | (simp; done)) | (simp [*]; done)), H', ⟨by first | omega | exact Nat.le_refl _⟩, by repeat (first | exact Drawn0.refl _ | apply Drawn0.step)⟩
    · rw [if_neg c5] at H
      have c5b0 : decide (a1 < 1) = false := decide_eq_false c5
      clear c5
      (first | rw [c5b0] | (simp only [i64_w, i32_w]; rw [c5b0]) | skip)
      by_cases c6 : a1 > 32
      · rw [if_pos c6] at H
        have c6b0 : decide (32 < a1) = true := decide_eq_true c6
        clear c6
        have H' := Aside0.mk H
        clear H
        go_wp2
        go_meet
        case rel => exact ⟨_, (true), (by first | rfl | (simp; done) | (simp only [i64_w, i32_w]; first | done | rfl | (simp; done)) | (simp [*]; done)), H', ⟨by first | omega | exact Nat.le_refl _⟩, by repeat (first | exact Drawn0.refl _ | apply Drawn0.step)⟩
      · rw [if_neg c6] at H
        have c6b0 : decide (32 < a1) = false := decide_eq_false c6
        clear c6
        have H' := Aside0.mk H
        clear H
        go_wp2
        go_meet
        case rel => exact ⟨_, (!t151), (by first | rfl | (simp; done) | (simp only [i64_w, i32_w]; first | done | rfl | (simp; done)) | (simp [*]; done)), H', ⟨by first | omega | exact Nat.le_refl _⟩, by repeat (first | exact Drawn0.refl _ | apply Drawn0.step)⟩
  case rest =>
    clear HC4
    try clear p2
    try clear c5
    try clear c5b0
    try clear c6
    try clear c6b0
    obtain ⟨kq, x19_3, rfl, HA, HJ3, ⟨mc3, rfl⟩⟩ := hcut
    cases kq with
    | zero => exact absurd HA.out (by simp [quoinlaw01_BitsSign.j0])
    | succ kj3 =>
      have H := HA.out
      clear HA
      simp only [quoinlaw01_BitsSign.j0] at H
      by_cases c7 : x19_3 = true
      · subst c7
        have H1 : (some t151) = some r := by rw [if_pos rfl] at H; exact H
        clear H
        have H := H1
        clear H1
        obtain rfl := Option.some.inj H
        go_wp2
        go_ret
        exact ⟨by first | rfl | (simp; done) | (simp only [i64_w, i32_w]; first | done | rfl | (simp; done)) | (simp [*]; done), by repeat (first | exact Drawn0.refl _ | apply Drawn0.step)⟩
      · replace c7 := Bool.eq_false_iff.mpr c7
        subst c7
        have H1 : (if 0 ≤ (wrap64 (32 - a1)) then ((bits_Sign.f (shr .u32 (shl .u32 ((a0) % 4294967296) (wrap64 (32 - a1))) (wrap64 (32 - a1))) a1).bind fun bt152 => (if bt152.2 = 0 then ((bits_Fits.f a0 a1).bind fun t154 => (some ((bt152.1 == a0) == t154))) else (some false))) else (none)) = some r := by rw [if_neg (show ¬ (false = true) by decide)] at H; exact H
        clear H
        have H := H1
        clear H1
        obtain ⟨ji8, hji8⟩ : ∃ j_ : Int, (wrap64 (32 - a1)) = j_ := ⟨_, rfl⟩
        replace H : (if 0 ≤ (ji8) then ((bits_Sign.f (shr .u32 (shl .u32 ((a0) % 4294967296) (ji8)) (ji8)) a1).bind fun bt152 => (if bt152.2 = 0 then ((bits_Fits.f a0 a1).bind fun t154 => (some ((bt152.1 == a0) == t154))) else (some false))) else (none)) = some r := by first | (rw [hji8] at H; exact H) | (simp only [hji8] at H ⊢; exact H)
        have hji8w : (IntKind.i64.wrap (32 - a1)) = ji8 := (i64_w _).trans hji8
        by_cases c9 : 0 ≤ (ji8)
        · rw [if_pos c9] at H
          have c9b0 := eq_true c9
          have c9b1 : decide (0 ≤ (ji8)) = true := decide_eq_true c9
          clear c9
          obtain ⟨ji10, hji10⟩ : ∃ j_ : Int, (shl .u32 ((a0) % 4294967296) (ji8)) = j_ := ⟨_, rfl⟩
          replace H : ((bits_Sign.f (shr .u32 (ji10) (ji8)) a1).bind fun bt152 => (if bt152.2 = 0 then ((bits_Fits.f a0 a1).bind fun t154 => (some ((bt152.1 == a0) == t154))) else (some false))) = some r := by first | (rw [hji10] at H; exact H) | (simp only [hji10] at H ⊢; exact H)
          have hji10_ : (IntKind.u32.wrap (((a0) % 4294967296) * 2 ^ min (ji8).toNat 32)) = ji10 := hji10
          have hji10z : (ji8) ≤ 32 → (IntKind.u32.wrap (((a0) % 4294967296) * 2 ^ (ji8).toNat)) = ji10 := shl_small hji10
          have c11b0 := eq_true (of_decide_eq_true (by first | (with_reducible assumption) | assumption) : 0 ≤ (ji8))
          obtain ⟨ji12, hji12⟩ : ∃ j_ : Int, (shr .u32 (ji10) (ji8)) = j_ := ⟨_, rfl⟩
          replace H : ((bits_Sign.f (ji12) a1).bind fun bt152 => (if bt152.2 = 0 then ((bits_Fits.f a0 a1).bind fun t154 => (some ((bt152.1 == a0) == t154))) else (some false))) = some r := by first | (rw [hji12] at H; exact H) | (simp only [hji12] at H ⊢; exact H)
          have hji12_ : ((ji10) / 2 ^ min (ji8).toNat 32) = ji12 := hji12
          have hji12z : (ji8) ≤ 32 → ((ji10) / 2 ^ (ji8).toNat) = ji12 := shr_small hji12
          replace H := Option.bind_eq_some_iff.mp H
          obtain ⟨⟨t152, t153⟩, A130, H⟩ := H
          replace H : (if t153 = 0 then ((bits_Fits.f a0 a1).bind fun t154 => (some ((t152 == a0) == t154))) else (some false)) = some r := H
          have A13 := Aside0.mk A130
          clear A130
          by_cases c14 : t153 = 0
          · rw [if_pos c14] at H
            have c14b0 : (t153 == 0) = true := beq_iff_eq.mpr c14
            have c14b1 : (t153 != 0) = false := bne_eq_false_iff_eq.mpr c14
            clear c14
            replace H := Option.bind_eq_some_iff.mp H
            obtain ⟨t154, A150, H⟩ := H
            replace H : (some ((t152 == a0) == t154)) = some r := H
            have A15 := Aside0.mk A150
            clear A150
            obtain rfl := Option.some.inj H
            go_wp2_with (first | ((with_reducible refine gate_callee (f := 14) rfl ?_); refine goesL_ (some 32) rfl rfl Try.func14 (by kernel_rfl) rfl #[.int .u32 ji12, .int .i64 a1] rfl (by (try simp only [List.map_toArray, List.map_cons, List.map_nil]); first | done | (simp only [hji12]; rfl) | rfl | (simp only [List.length_drop, List.length_take]; rfl)) ?_; (with_reducible refine (bits_Sign.calls ji12 a1 t152 t153 _ A13.out).mono ?_); rintro e w' ⟨rfl, ⟨nd, rfl⟩⟩; refine ⟨_, rfl, ?_⟩) | (go_at_call 16; (with_reducible refine (bits_Fits.calls a0 a1 t154 _ A15.out).mono ?_); rintro e w' ⟨rfl, ⟨nd, rfl⟩⟩))
            go_ret
            exact ⟨by first | rfl | (simp; done) | (simp only [i64_w, i32_w]; first | done | rfl | (simp; done)) | (simp only [← hji8, ← hji10, ← hji12] <;> (first | rfl | simp)) | (simp [*]; done), by repeat (first | exact Drawn0.refl _ | apply Drawn0.step)⟩
          · rw [if_neg c14] at H
            have c14b0 : (t153 == 0) = false := beq_eq_false_iff_ne.mpr c14
            have c14b1 : (t153 != 0) = true := bne_iff_ne.mpr c14
            obtain rfl := Option.some.inj H
            go_wp2_with (first | ((with_reducible refine gate_callee (f := 14) rfl ?_); refine goesL_ (some 32) rfl rfl Try.func14 (by kernel_rfl) rfl #[.int .u32 ji12, .int .i64 a1] rfl (by (try simp only [List.map_toArray, List.map_cons, List.map_nil]); first | done | (simp only [hji12]; rfl) | rfl | (simp only [List.length_drop, List.length_take]; rfl)) ?_; (with_reducible refine (bits_Sign.calls ji12 a1 t152 t153 _ A13.out).mono ?_); rintro e w' ⟨rfl, ⟨nd, rfl⟩⟩; refine ⟨_, rfl, ?_⟩))
            go_ret
            exact ⟨by first | rfl | (simp; done) | (simp only [i64_w, i32_w]; first | done | rfl | (simp; done)) | (simp only [← hji8, ← hji10, ← hji12] <;> (first | rfl | simp)) | (simp [*]; done), by repeat (first | exact Drawn0.refl _ | apply Drawn0.step)⟩
        · rw [if_neg c9] at H
          exact absurd H (by simp)

/-- THE ONE PURE STATEMENT of quoinlaw01_BitsSign: yours. -/
def quoinlaw01_BitsSign.Pure : Prop := ∀ (a0 : Int) (a1 : Int), (Lit.int .i64 a0).wf = true → (Lit.int .i64 a1).wf = true → ∃ k, quoinlaw01_BitsSign.f k a0 a1 = some true
theorem quoinlaw01_BitsSign.walk (P : quoinlaw01_BitsSign.Pure) (a0 : Int) (a1 : Int) (w : World) (w0 : (Lit.int .i64 a0).wf = true) (w1 : (Lit.int .i64 a1).wf = true) :
    Calls Try.prog 5 #[.int .i64 a0, .int .i64 a1] w fun e w' => e = .returned (.bool true) ∧ Below w.heap.size w w' := by
  obtain ⟨k, h⟩ := P a0 a1 w0 w1
  refine (quoinlaw01_BitsSign.calls k a0 a1 true w h).mono ?_
  rintro e w' ⟨rfl, hd⟩
  exact ⟨rfl, hd.below⟩

end Go.Proofs.Ytpijiohiohiilaa.B
