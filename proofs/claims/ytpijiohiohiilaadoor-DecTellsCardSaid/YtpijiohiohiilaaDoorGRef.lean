/- quoinref03.parts, the reference's codes of an instruction by its name: it answers what its Lean function tells. No condition. -/
import Derived.Test.YtpijiohiohiilaaDoorDRef03a
import Derived.Deep.Cut
namespace Go.Proofs.YtpijiohiohiilaaDoor.D
open Go.RowKit Go.Proofs.YtpijiohiohiilaaDoorW.PrintWords Go.Proofs.YtpijiohiohiilaaDoorW.PrintLast Go.Proofs.YtpijiohiohiilaaDoorW.PrintMore
set_option linter.unusedVariables false
set_option linter.unusedSimpArgs false

/-! ### quoinref03_parts: function 86 -/
def quoinref03_parts.f (k : Nat) (a0 : ByteArray) : Option (Int × Int × Int) := if a0.toList = ([108, 117, 105] : List UInt8) then (some (55, 0, 0)) else (if a0.toList = ([97, 117, 105, 112, 99] : List UInt8) then (some (23, 0, 0)) else (if a0.toList = ([106, 97, 108] : List UInt8) then (some (111, 0, 0)) else (if a0.toList = ([106, 97, 108, 114] : List UInt8) then (some (103, 0, 0)) else (if a0.toList = ([102, 101, 110, 99, 101] : List UInt8) then (some (15, 0, 0)) else (if a0.toList = ([102, 101, 110, 99, 101, 46, 105] : List UInt8) then (some (15, 1, 0)) else (if a0.toList = ([101, 99, 97, 108, 108] : List UInt8) then (some (115, 0, 0)) else (if a0.toList = ([101, 98, 114, 101, 97, 107] : List UInt8) then (some (115, 0, 0)) else ((quoinref03_kind.f k a0 (([(⟨#[98, 101, 113]⟩ : ByteArray), (⟨#[98, 110, 101]⟩ : ByteArray), (⟨#[98, 108, 116]⟩ : ByteArray), (⟨#[98, 103, 101]⟩ : ByteArray), (⟨#[98, 108, 116, 117]⟩ : ByteArray), (⟨#[98, 103, 101, 117]⟩ : ByteArray)] : List ByteArray))).bind fun t337 => (if t337 ≥ 0 then ((quoinref03_nth.f t337 (([0, 1, 4, 5, 6, 7] : List Int))).bind fun t341 => (some (99, t341, 0))) else ((quoinref03_kind.f k a0 (([(⟨#[108, 98]⟩ : ByteArray), (⟨#[108, 104]⟩ : ByteArray), (⟨#[108, 119]⟩ : ByteArray), (⟨#[108, 100]⟩ : ByteArray), (⟨#[108, 98, 117]⟩ : ByteArray), (⟨#[108, 104, 117]⟩ : ByteArray), (⟨#[108, 119, 117]⟩ : ByteArray)] : List ByteArray))).bind fun t345 => (if t345 ≥ 0 then (some (3, t345, 0)) else ((quoinref03_kind.f k a0 (([(⟨#[115, 98]⟩ : ByteArray), (⟨#[115, 104]⟩ : ByteArray), (⟨#[115, 119]⟩ : ByteArray), (⟨#[115, 100]⟩ : ByteArray)] : List ByteArray))).bind fun t349 => (if t349 ≥ 0 then (some (35, t349, 0)) else ((quoinref03_kind.f k a0 (([(⟨#[97, 100, 100, 105]⟩ : ByteArray), (⟨#[115, 108, 116, 105]⟩ : ByteArray), (⟨#[115, 108, 116, 105, 117]⟩ : ByteArray), (⟨#[120, 111, 114, 105]⟩ : ByteArray), (⟨#[111, 114, 105]⟩ : ByteArray), (⟨#[97, 110, 100, 105]⟩ : ByteArray), (⟨#[115, 108, 108, 105]⟩ : ByteArray), (⟨#[115, 114, 108, 105]⟩ : ByteArray), (⟨#[115, 114, 97, 105]⟩ : ByteArray)] : List ByteArray))).bind fun t353 => (if t353 ≥ 0 then ((quoinref03_nth.f t353 (([0, 2, 3, 4, 6, 7, 1, 5, 5] : List Int))).bind fun t357 => ((quoinref03_nth.f t353 (([0, 0, 0, 0, 0, 0, 0, 0, 32] : List Int))).bind fun t361 => (some (19, t357, t361)))) else ((quoinref03_kind.f k a0 (([(⟨#[97, 100, 100]⟩ : ByteArray), (⟨#[115, 117, 98]⟩ : ByteArray), (⟨#[115, 108, 108]⟩ : ByteArray), (⟨#[115, 108, 116]⟩ : ByteArray), (⟨#[115, 108, 116, 117]⟩ : ByteArray), (⟨#[120, 111, 114]⟩ : ByteArray), (⟨#[115, 114, 108]⟩ : ByteArray), (⟨#[115, 114, 97]⟩ : ByteArray), (⟨#[111, 114]⟩ : ByteArray), (⟨#[97, 110, 100]⟩ : ByteArray)] : List ByteArray))).bind fun t365 => (if t365 ≥ 0 then ((quoinref03_nth.f t365 (([0, 0, 1, 2, 3, 4, 5, 5, 6, 7] : List Int))).bind fun t369 => ((quoinref03_nth.f t365 (([0, 32, 0, 0, 0, 0, 0, 32, 0, 0] : List Int))).bind fun t373 => (some (51, t369, t373)))) else ((quoinref03_kind.f k a0 (([(⟨#[97, 100, 100, 105, 119]⟩ : ByteArray), (⟨#[115, 108, 108, 105, 119]⟩ : ByteArray), (⟨#[115, 114, 108, 105, 119]⟩ : ByteArray), (⟨#[115, 114, 97, 105, 119]⟩ : ByteArray)] : List ByteArray))).bind fun t377 => (if t377 ≥ 0 then ((quoinref03_nth.f t377 (([0, 1, 5, 5] : List Int))).bind fun t381 => ((quoinref03_nth.f t377 (([0, 0, 0, 32] : List Int))).bind fun t385 => (some (27, t381, t385)))) else ((quoinref03_kind.f k a0 (([(⟨#[97, 100, 100, 119]⟩ : ByteArray), (⟨#[115, 117, 98, 119]⟩ : ByteArray), (⟨#[115, 108, 108, 119]⟩ : ByteArray), (⟨#[115, 114, 108, 119]⟩ : ByteArray), (⟨#[115, 114, 97, 119]⟩ : ByteArray)] : List ByteArray))).bind fun t389 => (if t389 ≥ 0 then ((quoinref03_nth.f t389 (([0, 0, 1, 5, 5] : List Int))).bind fun t393 => ((quoinref03_nth.f t389 (([0, 32, 0, 0, 32] : List Int))).bind fun t397 => (some (59, t393, t397)))) else ((quoinref03_kind.f k a0 (([(⟨#[109, 117, 108]⟩ : ByteArray), (⟨#[109, 117, 108, 104]⟩ : ByteArray), (⟨#[109, 117, 108, 104, 115, 117]⟩ : ByteArray), (⟨#[109, 117, 108, 104, 117]⟩ : ByteArray), (⟨#[100, 105, 118]⟩ : ByteArray), (⟨#[100, 105, 118, 117]⟩ : ByteArray), (⟨#[114, 101, 109]⟩ : ByteArray), (⟨#[114, 101, 109, 117]⟩ : ByteArray)] : List ByteArray))).bind fun t401 => (if t401 ≥ 0 then (some (51, t401, 1)) else ((quoinref03_kind.f k a0 (([(⟨#[109, 117, 108, 119]⟩ : ByteArray), (⟨#[100, 105, 118, 119]⟩ : ByteArray), (⟨#[100, 105, 118, 117, 119]⟩ : ByteArray), (⟨#[114, 101, 109, 119]⟩ : ByteArray), (⟨#[114, 101, 109, 117, 119]⟩ : ByteArray)] : List ByteArray))).bind fun t405 => (if t405 ≥ 0 then ((quoinref03_nth.f t405 (([0, 4, 5, 6, 7] : List Int))).bind fun t409 => (some (59, t409, 1))) else ((quoinref03_kind.f k a0 (([(⟨#[99, 115, 114, 114, 119]⟩ : ByteArray), (⟨#[99, 115, 114, 114, 115]⟩ : ByteArray), (⟨#[99, 115, 114, 114, 99]⟩ : ByteArray), (⟨#[99, 115, 114, 114, 119, 105]⟩ : ByteArray), (⟨#[99, 115, 114, 114, 115, 105]⟩ : ByteArray), (⟨#[99, 115, 114, 114, 99, 105]⟩ : ByteArray)] : List ByteArray))).bind fun t413 => (if t413 ≥ 0 then ((quoinref03_nth.f t413 (([1, 2, 3, 5, 6, 7] : List Int))).bind fun t417 => (some (115, t417, 0))) else (if 0 ≤ (wrap64 ((a0.size : Int) - 1)) then (if (wrap64 ((a0.size : Int) - 1)) < (a0.size : Int) then (if (bt a0 (wrap64 ((a0.size : Int) - 1))) = 100 then (if 0 ≤ (wrap64 ((a0.size : Int) - 2)) then (if (wrap64 ((a0.size : Int) - 2)) ≤ (a0.size : Int) then ((quoinref03_kind.f k (a0.extract 0 ((wrap64 ((a0.size : Int) - 2)) : Int).toNat) (([(⟨#[108, 114]⟩ : ByteArray), (⟨#[115, 99]⟩ : ByteArray), (⟨#[97, 109, 111, 115, 119, 97, 112]⟩ : ByteArray), (⟨#[97, 109, 111, 97, 100, 100]⟩ : ByteArray), (⟨#[97, 109, 111, 120, 111, 114]⟩ : ByteArray), (⟨#[97, 109, 111, 97, 110, 100]⟩ : ByteArray), (⟨#[97, 109, 111, 111, 114]⟩ : ByteArray), (⟨#[97, 109, 111, 109, 105, 110]⟩ : ByteArray), (⟨#[97, 109, 111, 109, 97, 120]⟩ : ByteArray), (⟨#[97, 109, 111, 109, 105, 110, 117]⟩ : ByteArray), (⟨#[97, 109, 111, 109, 97, 120, 117]⟩ : ByteArray)] : List ByteArray))).bind fun t421 => ((quoinref03_nth.f t421 (([2, 3, 1, 0, 4, 12, 8, 16, 20, 24, 28] : List Int))).bind fun t425 => (some (47, 3, wrap64 (4 * t425))))) else (none)) else (none)) else (if 0 ≤ (wrap64 ((a0.size : Int) - 2)) then (if (wrap64 ((a0.size : Int) - 2)) ≤ (a0.size : Int) then ((quoinref03_kind.f k (a0.extract 0 ((wrap64 ((a0.size : Int) - 2)) : Int).toNat) (([(⟨#[108, 114]⟩ : ByteArray), (⟨#[115, 99]⟩ : ByteArray), (⟨#[97, 109, 111, 115, 119, 97, 112]⟩ : ByteArray), (⟨#[97, 109, 111, 97, 100, 100]⟩ : ByteArray), (⟨#[97, 109, 111, 120, 111, 114]⟩ : ByteArray), (⟨#[97, 109, 111, 97, 110, 100]⟩ : ByteArray), (⟨#[97, 109, 111, 111, 114]⟩ : ByteArray), (⟨#[97, 109, 111, 109, 105, 110]⟩ : ByteArray), (⟨#[97, 109, 111, 109, 97, 120]⟩ : ByteArray), (⟨#[97, 109, 111, 109, 105, 110, 117]⟩ : ByteArray), (⟨#[97, 109, 111, 109, 97, 120, 117]⟩ : ByteArray)] : List ByteArray))).bind fun t429 => ((quoinref03_nth.f t429 (([2, 3, 1, 0, 4, 12, 8, 16, 20, 24, 28] : List Int))).bind fun t433 => (some (47, 2, wrap64 (4 * t433))))) else (none)) else (none))) else (none)) else (none)))))))))))))))))))))))))))))
theorem quoinref03_parts.mono : ∀ a0 k, LeO (quoinref03_parts.f k a0) (quoinref03_parts.f (k + 1) a0) := by
 intro a0 k
 unfold quoinref03_parts.f
 repeat' first
   | (with_reducible exact quoinref03_kind.mono _ _ _)
   | (with_reducible exact LeO.refl _)
   | (with_reducible exact LeO.none _)
   | (with_reducible refine LeO.ite ?_ ?_)
   | (with_reducible refine LeO.bind ?_ (fun _ => ?_))
   | exact LeO.none _
   | refine LeO.ite ?_ ?_
   | refine LeO.bind ?_ (fun _ => ?_)
set_option maxHeartbeats 8000000 in
set_option maxRecDepth 100000 in
theorem quoinref03_parts.calls (k : Nat) (a0 : ByteArray) (r1 : Int) (r2 : Int) (r3 : Int) (w : World) (h : quoinref03_parts.f k a0 = some (r1, r2, r3)) :
  Calls Tryd.prog 86 #[.string a0] w fun e w' => e = .returned (.tuple #[.int .i64 r1, .int .i64 r2, .int .i64 r3]) ∧ Below w.heap.size w w' := by
 have HB := Aside0.mk (Below.refl w.heap.size w)
 unfold quoinref03_parts.f at h
 have H := h
 clear h
 by_cases c2 : a0.toList = ([108, 117, 105] : List UInt8)
 ·rw [if_pos c2] at H
  have c2b0 := beq_iff_eq.mpr c2
  have c2b1 := bne_eq_false_iff_eq.mpr c2
  clear c2
  simp only [Option.some.injEq, Prod.mk.injEq] at H
  obtain ⟨rfl, rfl, rfl⟩ := H
  go_enter Tryd.func86, Tryd.ntmps86
  go_wp2
  go_ret3
  exact ⟨by first | rfl | (simp <;> rfl) | (simp [*] <;> rfl), bl HB.out⟩
 ·rw [if_neg c2] at H
  have c2b0 := beq_eq_false_iff_ne.mpr c2
  have c2b1 := bne_iff_ne.mpr c2
  by_cases c3 : a0.toList = ([97, 117, 105, 112, 99] : List UInt8)
  ·rw [if_pos c3] at H
   have c3b0 := beq_iff_eq.mpr c3
   have c3b1 := bne_eq_false_iff_eq.mpr c3
   clear c3
   simp only [Option.some.injEq, Prod.mk.injEq] at H
   obtain ⟨rfl, rfl, rfl⟩ := H
   go_enter Tryd.func86, Tryd.ntmps86
   go_wp2
   go_ret3
   exact ⟨by first | rfl | (simp <;> rfl) | (simp [*] <;> rfl), bl HB.out⟩
  ·rw [if_neg c3] at H
   have c3b0 := beq_eq_false_iff_ne.mpr c3
   have c3b1 := bne_iff_ne.mpr c3
   by_cases c4 : a0.toList = ([106, 97, 108] : List UInt8)
   ·rw [if_pos c4] at H
    have c4b0 := beq_iff_eq.mpr c4
    have c4b1 := bne_eq_false_iff_eq.mpr c4
    clear c4
    simp only [Option.some.injEq, Prod.mk.injEq] at H
    obtain ⟨rfl, rfl, rfl⟩ := H
    go_enter Tryd.func86, Tryd.ntmps86
    go_wp2
    go_ret3
    exact ⟨by first | rfl | (simp <;> rfl) | (simp [*] <;> rfl), bl HB.out⟩
   ·rw [if_neg c4] at H
    have c4b0 := beq_eq_false_iff_ne.mpr c4
    have c4b1 := bne_iff_ne.mpr c4
    by_cases c5 : a0.toList = ([106, 97, 108, 114] : List UInt8)
    ·rw [if_pos c5] at H
     have c5b0 := beq_iff_eq.mpr c5
     have c5b1 := bne_eq_false_iff_eq.mpr c5
     clear c5
     simp only [Option.some.injEq, Prod.mk.injEq] at H
     obtain ⟨rfl, rfl, rfl⟩ := H
     go_enter Tryd.func86, Tryd.ntmps86
     go_wp2
     go_ret3
     exact ⟨by first | rfl | (simp <;> rfl) | (simp [*] <;> rfl), bl HB.out⟩
    ·rw [if_neg c5] at H
     have c5b0 := beq_eq_false_iff_ne.mpr c5
     have c5b1 := bne_iff_ne.mpr c5
     by_cases c6 : a0.toList = ([102, 101, 110, 99, 101] : List UInt8)
     ·rw [if_pos c6] at H
      have c6b0 := beq_iff_eq.mpr c6
      have c6b1 := bne_eq_false_iff_eq.mpr c6
      clear c6
      simp only [Option.some.injEq, Prod.mk.injEq] at H
      obtain ⟨rfl, rfl, rfl⟩ := H
      go_enter Tryd.func86, Tryd.ntmps86
      go_wp2
      go_ret3
      exact ⟨by first | rfl | (simp <;> rfl) | (simp [*] <;> rfl), bl HB.out⟩
     ·rw [if_neg c6] at H
      have c6b0 := beq_eq_false_iff_ne.mpr c6
      have c6b1 := bne_iff_ne.mpr c6
      by_cases c7 : a0.toList = ([102, 101, 110, 99, 101, 46, 105] : List UInt8)
      ·rw [if_pos c7] at H
       have c7b0 := beq_iff_eq.mpr c7
       have c7b1 := bne_eq_false_iff_eq.mpr c7
       clear c7
       simp only [Option.some.injEq, Prod.mk.injEq] at H
       obtain ⟨rfl, rfl, rfl⟩ := H
       go_enter Tryd.func86, Tryd.ntmps86
       go_wp2
       go_ret3
       exact ⟨by first | rfl | (simp <;> rfl) | (simp [*] <;> rfl), bl HB.out⟩
      ·rw [if_neg c7] at H
       have c7b0 := beq_eq_false_iff_ne.mpr c7
       have c7b1 := bne_iff_ne.mpr c7
       by_cases c8 : a0.toList = ([101, 99, 97, 108, 108] : List UInt8)
       ·rw [if_pos c8] at H
        have c8b0 := beq_iff_eq.mpr c8
        have c8b1 := bne_eq_false_iff_eq.mpr c8
        clear c8
        simp only [Option.some.injEq, Prod.mk.injEq] at H
        obtain ⟨rfl, rfl, rfl⟩ := H
        go_enter Tryd.func86, Tryd.ntmps86
        go_wp2
        go_ret3
        exact ⟨by first | rfl | (simp <;> rfl) | (simp [*] <;> rfl), bl HB.out⟩
       ·rw [if_neg c8] at H
        have c8b0 := beq_eq_false_iff_ne.mpr c8
        have c8b1 := bne_iff_ne.mpr c8
        by_cases c9 : a0.toList = ([101, 98, 114, 101, 97, 107] : List UInt8)
        ·rw [if_pos c9] at H
         have c9b0 := beq_iff_eq.mpr c9
         have c9b1 := bne_eq_false_iff_eq.mpr c9
         clear c9
         simp only [Option.some.injEq, Prod.mk.injEq] at H
         obtain ⟨rfl, rfl, rfl⟩ := H
         go_enter Tryd.func86, Tryd.ntmps86
         go_wp2
         go_ret3
         exact ⟨by first | rfl | (simp <;> rfl) | (simp [*] <;> rfl), bl HB.out⟩
        ·rw [if_neg c9] at H
         have c9b0 := beq_eq_false_iff_ne.mpr c9
         have c9b1 := bne_iff_ne.mpr c9
         obtain ⟨y334, hy334⟩ : ∃ y_ : List ByteArray, y_ = (([(⟨#[98, 101, 113]⟩ : ByteArray), (⟨#[98, 110, 101]⟩ : ByteArray), (⟨#[98, 108, 116]⟩ : ByteArray), (⟨#[98, 103, 101]⟩ : ByteArray), (⟨#[98, 108, 116, 117]⟩ : ByteArray), (⟨#[98, 103, 101, 117]⟩ : ByteArray)] : List ByteArray)) := ⟨_, rfl⟩
         rw [← hy334] at H
         have Ny334 := Aside0.mk hy334
         clear hy334
         replace H := Option.bind_eq_some_iff.mp H
         obtain ⟨t337, A100, H⟩ := H
         have A10 := Aside0.mk A100
         clear A100
         have HS := Aside0.mk H
         clear H
         go_enter Tryd.func86, Tryd.ntmps86
         go_upto_if 38 with (first | ((with_reducible refine gate_dst (N := 35) rfl ?_); refine lit_read Value.string (fun _ => rfl) 9 (by rfl) (N := 35) rfl y334 ?hr (bl HB.out) (by rw [Ny334.out]; decide) ?_; (case hr => rw [Ny334.out]; go_simp; first | done | exact ⟨rfl, rfl⟩ | rfl); clear HB; intro Ao15 co15 w13 hc336 hC336 HB0; have HB := Aside0.mk HB0; clear HB0) | ((with_reducible refine gate_callee (f := 93) rfl ?_); refine goesL_ (some 36) rfl rfl Tryd.func93 (by kernel_rfl) rfl #[.string a0, .slice Ao15 y334.length co15] rfl (by (try simp only [List.map_toArray, List.map_cons, List.map_nil]); first | done | rfl) ?_; (with_reducible refine (quoinref03_kind.calls k a0 _ _ y334 t337 _ ?side1 ?side2 A10.out).mono ?_); (case side1 => repeat (first | exact hC336 | (with_reducible refine Kd.C_alloc ?_ _) | (with_reducible refine Kd.C_drewN ?_ _) | (with_reducible refine Kd.C_drew ?_))); (case side2 => exact hc336); rintro e w' ⟨rfl, ⟨nd, rfl⟩⟩; refine ⟨_, rfl, ?_⟩))
         have H := HS.out
         clear HS
         by_cases c11 : t337 ≥ 0
         ·rw [if_pos c11] at H
          have c11b0 : decide (0 ≤ t337) = true := decide_eq_true c11
          (first | rw [c11b0] | skip)
          clear c11
          obtain ⟨y338, hy338⟩ : ∃ y_ : List Int, y_ = (([0, 1, 4, 5, 6, 7] : List Int)) := ⟨_, rfl⟩
          rw [← hy338] at H
          have Ny338 := Aside0.mk hy338
          clear hy338
          replace H := Option.bind_eq_some_iff.mp H
          obtain ⟨t341, A120, H⟩ := H
          have A12 := Aside0.mk A120
          clear A120
          simp only [Option.some.injEq, Prod.mk.injEq] at H
          obtain ⟨rfl, rfl, rfl⟩ := H
          go_wp2_with (first | ((with_reducible refine gate_dst (N := 40) rfl ?_); refine lit_read (Value.int .i64) (fun _ => rfl) 3 (by rfl) (N := 40) rfl y338 ?hr (bl HB.out) (by rw [Ny338.out]; decide) ?_; (case hr => rw [Ny338.out]; go_simp; first | done | exact ⟨rfl, rfl⟩ | rfl); clear HB; intro Ao18 co18 w16 hc340 hC340 HB0; have HB := Aside0.mk HB0; clear HB0) | ((with_reducible refine gate_callee (f := 94) rfl ?_); refine goesL_ (some 41) rfl rfl Tryd.func94 (by kernel_rfl) rfl #[.int .i64 t337, .slice Ao18 y338.length co18] rfl (by (try simp only [List.map_toArray, List.map_cons, List.map_nil]); first | done | rfl) ?_; (with_reducible refine (quoinref03_nth.calls t337 _ _ y338 t341 _ ?side1 ?side2 A12.out).mono ?_); (case side1 => repeat (first | exact hC340 | (with_reducible refine Kd.C_alloc ?_ _) | (with_reducible refine Kd.C_drewN ?_ _) | (with_reducible refine Kd.C_drew ?_))); (case side2 => exact hc340); rintro e w' ⟨rfl, ⟨nd, rfl⟩⟩; refine ⟨_, rfl, ?_⟩))
          go_ret3
          exact ⟨by first | rfl | (simp <;> rfl) | (simp [*] <;> rfl), bl HB.out⟩
         ·rw [if_neg c11] at H
          have c11b0 : decide (0 ≤ t337) = false := decide_eq_false c11
          (first | rw [c11b0] | skip)
          clear c11
          obtain ⟨y342, hy342⟩ : ∃ y_ : List ByteArray, y_ = (([(⟨#[108, 98]⟩ : ByteArray), (⟨#[108, 104]⟩ : ByteArray), (⟨#[108, 119]⟩ : ByteArray), (⟨#[108, 100]⟩ : ByteArray), (⟨#[108, 98, 117]⟩ : ByteArray), (⟨#[108, 104, 117]⟩ : ByteArray), (⟨#[108, 119, 117]⟩ : ByteArray)] : List ByteArray)) := ⟨_, rfl⟩
          rw [← hy342] at H
          have Ny342 := Aside0.mk hy342
          clear hy342
          replace H := Option.bind_eq_some_iff.mp H
          obtain ⟨t345, A190, H⟩ := H
          have A19 := Aside0.mk A190
          clear A190
          have HS := Aside0.mk H
          clear H
          go_upto_if 46 with (first | ((with_reducible refine gate_dst (N := 43) rfl ?_); refine lit_read Value.string (fun _ => rfl) 9 (by rfl) (N := 43) rfl y342 ?hr (bl HB.out) (by rw [Ny342.out]; decide) ?_; (case hr => rw [Ny342.out]; go_simp; first | done | exact ⟨rfl, rfl⟩ | rfl); clear HB; intro Ao26 co26 w24 hc344 hC344 HB0; have HB := Aside0.mk HB0; clear HB0) | ((with_reducible refine gate_callee (f := 93) rfl ?_); refine goesL_ (some 44) rfl rfl Tryd.func93 (by kernel_rfl) rfl #[.string a0, .slice Ao26 y342.length co26] rfl (by (try simp only [List.map_toArray, List.map_cons, List.map_nil]); first | done | rfl) ?_; (with_reducible refine (quoinref03_kind.calls k a0 _ _ y342 t345 _ ?side1 ?side2 A19.out).mono ?_); (case side1 => repeat (first | exact hC344 | (with_reducible refine Kd.C_alloc ?_ _) | (with_reducible refine Kd.C_drewN ?_ _) | (with_reducible refine Kd.C_drew ?_))); (case side2 => exact hc344); rintro e w' ⟨rfl, ⟨nd, rfl⟩⟩; refine ⟨_, rfl, ?_⟩))
          have H := HS.out
          clear HS
          by_cases c20 : t345 ≥ 0
          ·rw [if_pos c20] at H
           have c20b0 : decide (0 ≤ t345) = true := decide_eq_true c20
           (first | rw [c20b0] | skip)
           clear c20
           simp only [Option.some.injEq, Prod.mk.injEq] at H
           obtain ⟨rfl, rfl, rfl⟩ := H
           go_wp2
           go_ret3
           exact ⟨by first | rfl | (simp <;> rfl) | (simp [*] <;> rfl), bl HB.out⟩
          ·rw [if_neg c20] at H
           have c20b0 : decide (0 ≤ t345) = false := decide_eq_false c20
           (first | rw [c20b0] | skip)
           clear c20
           obtain ⟨y346, hy346⟩ : ∃ y_ : List ByteArray, y_ = (([(⟨#[115, 98]⟩ : ByteArray), (⟨#[115, 104]⟩ : ByteArray), (⟨#[115, 119]⟩ : ByteArray), (⟨#[115, 100]⟩ : ByteArray)] : List ByteArray)) := ⟨_, rfl⟩
           rw [← hy346] at H
           have Ny346 := Aside0.mk hy346
           clear hy346
           replace H := Option.bind_eq_some_iff.mp H
           obtain ⟨t349, A270, H⟩ := H
           have A27 := Aside0.mk A270
           clear A270
           have HS := Aside0.mk H
           clear H
           go_upto_if 52 with (first | ((with_reducible refine gate_dst (N := 49) rfl ?_); refine lit_read Value.string (fun _ => rfl) 9 (by rfl) (N := 49) rfl y346 ?hr (bl HB.out) (by rw [Ny346.out]; decide) ?_; (case hr => rw [Ny346.out]; go_simp; first | done | exact ⟨rfl, rfl⟩ | rfl); clear HB; intro Ao37 co37 w35 hc348 hC348 HB0; have HB := Aside0.mk HB0; clear HB0) | ((with_reducible refine gate_callee (f := 93) rfl ?_); refine goesL_ (some 50) rfl rfl Tryd.func93 (by kernel_rfl) rfl #[.string a0, .slice Ao37 y346.length co37] rfl (by (try simp only [List.map_toArray, List.map_cons, List.map_nil]); first | done | rfl) ?_; (with_reducible refine (quoinref03_kind.calls k a0 _ _ y346 t349 _ ?side1 ?side2 A27.out).mono ?_); (case side1 => repeat (first | exact hC348 | (with_reducible refine Kd.C_alloc ?_ _) | (with_reducible refine Kd.C_drewN ?_ _) | (with_reducible refine Kd.C_drew ?_))); (case side2 => exact hc348); rintro e w' ⟨rfl, ⟨nd, rfl⟩⟩; refine ⟨_, rfl, ?_⟩))
           have H := HS.out
           clear HS
           by_cases c28 : t349 ≥ 0
           ·rw [if_pos c28] at H
            have c28b0 : decide (0 ≤ t349) = true := decide_eq_true c28
            (first | rw [c28b0] | skip)
            clear c28
            simp only [Option.some.injEq, Prod.mk.injEq] at H
            obtain ⟨rfl, rfl, rfl⟩ := H
            go_wp2
            go_ret3
            exact ⟨by first | rfl | (simp <;> rfl) | (simp [*] <;> rfl), bl HB.out⟩
           ·rw [if_neg c28] at H
            have c28b0 : decide (0 ≤ t349) = false := decide_eq_false c28
            (first | rw [c28b0] | skip)
            clear c28
            obtain ⟨y350, hy350⟩ : ∃ y_ : List ByteArray, y_ = (([(⟨#[97, 100, 100, 105]⟩ : ByteArray), (⟨#[115, 108, 116, 105]⟩ : ByteArray), (⟨#[115, 108, 116, 105, 117]⟩ : ByteArray), (⟨#[120, 111, 114, 105]⟩ : ByteArray), (⟨#[111, 114, 105]⟩ : ByteArray), (⟨#[97, 110, 100, 105]⟩ : ByteArray), (⟨#[115, 108, 108, 105]⟩ : ByteArray), (⟨#[115, 114, 108, 105]⟩ : ByteArray), (⟨#[115, 114, 97, 105]⟩ : ByteArray)] : List ByteArray)) := ⟨_, rfl⟩
            rw [← hy350] at H
            have Ny350 := Aside0.mk hy350
            clear hy350
            replace H := Option.bind_eq_some_iff.mp H
            obtain ⟨t353, A380, H⟩ := H
            have A38 := Aside0.mk A380
            clear A380
            have HS := Aside0.mk H
            clear H
            go_upto_if 58 with (first | ((with_reducible refine gate_dst (N := 55) rfl ?_); refine lit_read Value.string (fun _ => rfl) 9 (by rfl) (N := 55) rfl y350 ?hr (bl HB.out) (by rw [Ny350.out]; decide) ?_; (case hr => rw [Ny350.out]; go_simp; first | done | exact ⟨rfl, rfl⟩ | rfl); clear HB; intro Ao53 co53 w51 hc352 hC352 HB0; have HB := Aside0.mk HB0; clear HB0) | ((with_reducible refine gate_callee (f := 93) rfl ?_); refine goesL_ (some 56) rfl rfl Tryd.func93 (by kernel_rfl) rfl #[.string a0, .slice Ao53 y350.length co53] rfl (by (try simp only [List.map_toArray, List.map_cons, List.map_nil]); first | done | rfl) ?_; (with_reducible refine (quoinref03_kind.calls k a0 _ _ y350 t353 _ ?side1 ?side2 A38.out).mono ?_); (case side1 => repeat (first | exact hC352 | (with_reducible refine Kd.C_alloc ?_ _) | (with_reducible refine Kd.C_drewN ?_ _) | (with_reducible refine Kd.C_drew ?_))); (case side2 => exact hc352); rintro e w' ⟨rfl, ⟨nd, rfl⟩⟩; refine ⟨_, rfl, ?_⟩))
            have H := HS.out
            clear HS
            by_cases c39 : t353 ≥ 0
            ·rw [if_pos c39] at H
             have c39b0 : decide (0 ≤ t353) = true := decide_eq_true c39
             (first | rw [c39b0] | skip)
             clear c39
             obtain ⟨y354, hy354⟩ : ∃ y_ : List Int, y_ = (([0, 2, 3, 4, 6, 7, 1, 5, 5] : List Int)) := ⟨_, rfl⟩
             rw [← hy354] at H
             have Ny354 := Aside0.mk hy354
             clear hy354
             replace H := Option.bind_eq_some_iff.mp H
             obtain ⟨t357, A400, H⟩ := H
             have A40 := Aside0.mk A400
             clear A400
             obtain ⟨y358, hy358⟩ : ∃ y_ : List Int, y_ = (([0, 0, 0, 0, 0, 0, 0, 0, 32] : List Int)) := ⟨_, rfl⟩
             rw [← hy358] at H
             have Ny358 := Aside0.mk hy358
             clear hy358
             replace H := Option.bind_eq_some_iff.mp H
             obtain ⟨t361, A410, H⟩ := H
             have A41 := Aside0.mk A410
             clear A410
             simp only [Option.some.injEq, Prod.mk.injEq] at H
             obtain ⟨rfl, rfl, rfl⟩ := H
             go_wp2_with (first | ((with_reducible refine gate_dst (N := 60) rfl ?_); refine lit_read (Value.int .i64) (fun _ => rfl) 3 (by rfl) (N := 60) rfl y354 ?hr (bl HB.out) (by rw [Ny354.out]; decide) ?_; (case hr => rw [Ny354.out]; go_simp; first | done | exact ⟨rfl, rfl⟩ | rfl); clear HB; intro Ao56 co56 w54 hc356 hC356 HB0; have HB := Aside0.mk HB0; clear HB0) | ((with_reducible refine gate_callee (f := 94) rfl ?_); refine goesL_ (some 61) rfl rfl Tryd.func94 (by kernel_rfl) rfl #[.int .i64 t353, .slice Ao56 y354.length co56] rfl (by (try simp only [List.map_toArray, List.map_cons, List.map_nil]); first | done | rfl) ?_; (with_reducible refine (quoinref03_nth.calls t353 _ _ y354 t357 _ ?side1 ?side2 A40.out).mono ?_); (case side1 => repeat (first | exact hC356 | (with_reducible refine Kd.C_alloc ?_ _) | (with_reducible refine Kd.C_drewN ?_ _) | (with_reducible refine Kd.C_drew ?_))); (case side2 => exact hc356); rintro e w' ⟨rfl, ⟨nd, rfl⟩⟩; refine ⟨_, rfl, ?_⟩) | ((with_reducible refine gate_dst (N := 63) rfl ?_); refine lit_read (Value.int .i64) (fun _ => rfl) 3 (by rfl) (N := 63) rfl y358 ?hr (bl HB.out) (by rw [Ny358.out]; decide) ?_; (case hr => rw [Ny358.out]; go_simp; first | done | exact ⟨rfl, rfl⟩ | rfl); clear HB; intro Ao59 co59 w57 hc360 hC360 HB0; have HB := Aside0.mk HB0; clear HB0) | ((with_reducible refine gate_callee (f := 94) rfl ?_); refine goesL_ (some 64) rfl rfl Tryd.func94 (by kernel_rfl) rfl #[.int .i64 t353, .slice Ao59 y358.length co59] rfl (by (try simp only [List.map_toArray, List.map_cons, List.map_nil]); first | done | rfl) ?_; (with_reducible refine (quoinref03_nth.calls t353 _ _ y358 t361 _ ?side1 ?side2 A41.out).mono ?_); (case side1 => repeat (first | exact hC360 | (with_reducible refine Kd.C_alloc ?_ _) | (with_reducible refine Kd.C_drewN ?_ _) | (with_reducible refine Kd.C_drew ?_))); (case side2 => exact hc360); rintro e w' ⟨rfl, ⟨nd, rfl⟩⟩; refine ⟨_, rfl, ?_⟩))
             go_ret3
             exact ⟨by first | rfl | (simp <;> rfl) | (simp [*] <;> rfl), bl HB.out⟩
            ·rw [if_neg c39] at H
             have c39b0 : decide (0 ≤ t353) = false := decide_eq_false c39
             (first | rw [c39b0] | skip)
             clear c39
             obtain ⟨y362, hy362⟩ : ∃ y_ : List ByteArray, y_ = (([(⟨#[97, 100, 100]⟩ : ByteArray), (⟨#[115, 117, 98]⟩ : ByteArray), (⟨#[115, 108, 108]⟩ : ByteArray), (⟨#[115, 108, 116]⟩ : ByteArray), (⟨#[115, 108, 116, 117]⟩ : ByteArray), (⟨#[120, 111, 114]⟩ : ByteArray), (⟨#[115, 114, 108]⟩ : ByteArray), (⟨#[115, 114, 97]⟩ : ByteArray), (⟨#[111, 114]⟩ : ByteArray), (⟨#[97, 110, 100]⟩ : ByteArray)] : List ByteArray)) := ⟨_, rfl⟩
             rw [← hy362] at H
             have Ny362 := Aside0.mk hy362
             clear hy362
             replace H := Option.bind_eq_some_iff.mp H
             obtain ⟨t365, A600, H⟩ := H
             have A60 := Aside0.mk A600
             clear A600
             have HS := Aside0.mk H
             clear H
             go_upto_if 69 with (first | ((with_reducible refine gate_dst (N := 66) rfl ?_); refine lit_read Value.string (fun _ => rfl) 9 (by rfl) (N := 66) rfl y362 ?hr (bl HB.out) (by rw [Ny362.out]; decide) ?_; (case hr => rw [Ny362.out]; go_simp; first | done | exact ⟨rfl, rfl⟩ | rfl); clear HB; intro Ao78 co78 w76 hc364 hC364 HB0; have HB := Aside0.mk HB0; clear HB0) | ((with_reducible refine gate_callee (f := 93) rfl ?_); refine goesL_ (some 67) rfl rfl Tryd.func93 (by kernel_rfl) rfl #[.string a0, .slice Ao78 y362.length co78] rfl (by (try simp only [List.map_toArray, List.map_cons, List.map_nil]); first | done | rfl) ?_; (with_reducible refine (quoinref03_kind.calls k a0 _ _ y362 t365 _ ?side1 ?side2 A60.out).mono ?_); (case side1 => repeat (first | exact hC364 | (with_reducible refine Kd.C_alloc ?_ _) | (with_reducible refine Kd.C_drewN ?_ _) | (with_reducible refine Kd.C_drew ?_))); (case side2 => exact hc364); rintro e w' ⟨rfl, ⟨nd, rfl⟩⟩; refine ⟨_, rfl, ?_⟩))
             have H := HS.out
             clear HS
             by_cases c61 : t365 ≥ 0
             ·rw [if_pos c61] at H
              have c61b0 : decide (0 ≤ t365) = true := decide_eq_true c61
              (first | rw [c61b0] | skip)
              clear c61
              obtain ⟨y366, hy366⟩ : ∃ y_ : List Int, y_ = (([0, 0, 1, 2, 3, 4, 5, 5, 6, 7] : List Int)) := ⟨_, rfl⟩
              rw [← hy366] at H
              have Ny366 := Aside0.mk hy366
              clear hy366
              replace H := Option.bind_eq_some_iff.mp H
              obtain ⟨t369, A620, H⟩ := H
              have A62 := Aside0.mk A620
              clear A620
              obtain ⟨y370, hy370⟩ : ∃ y_ : List Int, y_ = (([0, 32, 0, 0, 0, 0, 0, 32, 0, 0] : List Int)) := ⟨_, rfl⟩
              rw [← hy370] at H
              have Ny370 := Aside0.mk hy370
              clear hy370
              replace H := Option.bind_eq_some_iff.mp H
              obtain ⟨t373, A630, H⟩ := H
              have A63 := Aside0.mk A630
              clear A630
              simp only [Option.some.injEq, Prod.mk.injEq] at H
              obtain ⟨rfl, rfl, rfl⟩ := H
              go_wp2_with (first | ((with_reducible refine gate_dst (N := 71) rfl ?_); refine lit_read (Value.int .i64) (fun _ => rfl) 3 (by rfl) (N := 71) rfl y366 ?hr (bl HB.out) (by rw [Ny366.out]; decide) ?_; (case hr => rw [Ny366.out]; go_simp; first | done | exact ⟨rfl, rfl⟩ | rfl); clear HB; intro Ao81 co81 w79 hc368 hC368 HB0; have HB := Aside0.mk HB0; clear HB0) | ((with_reducible refine gate_callee (f := 94) rfl ?_); refine goesL_ (some 72) rfl rfl Tryd.func94 (by kernel_rfl) rfl #[.int .i64 t365, .slice Ao81 y366.length co81] rfl (by (try simp only [List.map_toArray, List.map_cons, List.map_nil]); first | done | rfl) ?_; (with_reducible refine (quoinref03_nth.calls t365 _ _ y366 t369 _ ?side1 ?side2 A62.out).mono ?_); (case side1 => repeat (first | exact hC368 | (with_reducible refine Kd.C_alloc ?_ _) | (with_reducible refine Kd.C_drewN ?_ _) | (with_reducible refine Kd.C_drew ?_))); (case side2 => exact hc368); rintro e w' ⟨rfl, ⟨nd, rfl⟩⟩; refine ⟨_, rfl, ?_⟩) | ((with_reducible refine gate_dst (N := 74) rfl ?_); refine lit_read (Value.int .i64) (fun _ => rfl) 3 (by rfl) (N := 74) rfl y370 ?hr (bl HB.out) (by rw [Ny370.out]; decide) ?_; (case hr => rw [Ny370.out]; go_simp; first | done | exact ⟨rfl, rfl⟩ | rfl); clear HB; intro Ao84 co84 w82 hc372 hC372 HB0; have HB := Aside0.mk HB0; clear HB0) | ((with_reducible refine gate_callee (f := 94) rfl ?_); refine goesL_ (some 75) rfl rfl Tryd.func94 (by kernel_rfl) rfl #[.int .i64 t365, .slice Ao84 y370.length co84] rfl (by (try simp only [List.map_toArray, List.map_cons, List.map_nil]); first | done | rfl) ?_; (with_reducible refine (quoinref03_nth.calls t365 _ _ y370 t373 _ ?side1 ?side2 A63.out).mono ?_); (case side1 => repeat (first | exact hC372 | (with_reducible refine Kd.C_alloc ?_ _) | (with_reducible refine Kd.C_drewN ?_ _) | (with_reducible refine Kd.C_drew ?_))); (case side2 => exact hc372); rintro e w' ⟨rfl, ⟨nd, rfl⟩⟩; refine ⟨_, rfl, ?_⟩))
              go_ret3
              exact ⟨by first | rfl | (simp <;> rfl) | (simp [*] <;> rfl), bl HB.out⟩
             ·rw [if_neg c61] at H
              have c61b0 : decide (0 ≤ t365) = false := decide_eq_false c61
              (first | rw [c61b0] | skip)
              clear c61
              obtain ⟨y374, hy374⟩ : ∃ y_ : List ByteArray, y_ = (([(⟨#[97, 100, 100, 105, 119]⟩ : ByteArray), (⟨#[115, 108, 108, 105, 119]⟩ : ByteArray), (⟨#[115, 114, 108, 105, 119]⟩ : ByteArray), (⟨#[115, 114, 97, 105, 119]⟩ : ByteArray)] : List ByteArray)) := ⟨_, rfl⟩
              rw [← hy374] at H
              have Ny374 := Aside0.mk hy374
              clear hy374
              replace H := Option.bind_eq_some_iff.mp H
              obtain ⟨t377, A850, H⟩ := H
              have A85 := Aside0.mk A850
              clear A850
              have HS := Aside0.mk H
              clear H
              go_upto_if 80 with (first | ((with_reducible refine gate_dst (N := 77) rfl ?_); refine lit_read Value.string (fun _ => rfl) 9 (by rfl) (N := 77) rfl y374 ?hr (bl HB.out) (by rw [Ny374.out]; decide) ?_; (case hr => rw [Ny374.out]; go_simp; first | done | exact ⟨rfl, rfl⟩ | rfl); clear HB; intro Ao106 co106 w104 hc376 hC376 HB0; have HB := Aside0.mk HB0; clear HB0) | ((with_reducible refine gate_callee (f := 93) rfl ?_); refine goesL_ (some 78) rfl rfl Tryd.func93 (by kernel_rfl) rfl #[.string a0, .slice Ao106 y374.length co106] rfl (by (try simp only [List.map_toArray, List.map_cons, List.map_nil]); first | done | rfl) ?_; (with_reducible refine (quoinref03_kind.calls k a0 _ _ y374 t377 _ ?side1 ?side2 A85.out).mono ?_); (case side1 => repeat (first | exact hC376 | (with_reducible refine Kd.C_alloc ?_ _) | (with_reducible refine Kd.C_drewN ?_ _) | (with_reducible refine Kd.C_drew ?_))); (case side2 => exact hc376); rintro e w' ⟨rfl, ⟨nd, rfl⟩⟩; refine ⟨_, rfl, ?_⟩))
              have H := HS.out
              clear HS
              by_cases c86 : t377 ≥ 0
              ·rw [if_pos c86] at H
               have c86b0 : decide (0 ≤ t377) = true := decide_eq_true c86
               (first | rw [c86b0] | skip)
               clear c86
               obtain ⟨y378, hy378⟩ : ∃ y_ : List Int, y_ = (([0, 1, 5, 5] : List Int)) := ⟨_, rfl⟩
               rw [← hy378] at H
               have Ny378 := Aside0.mk hy378
               clear hy378
               replace H := Option.bind_eq_some_iff.mp H
               obtain ⟨t381, A870, H⟩ := H
               have A87 := Aside0.mk A870
               clear A870
               obtain ⟨y382, hy382⟩ : ∃ y_ : List Int, y_ = (([0, 0, 0, 32] : List Int)) := ⟨_, rfl⟩
               rw [← hy382] at H
               have Ny382 := Aside0.mk hy382
               clear hy382
               replace H := Option.bind_eq_some_iff.mp H
               obtain ⟨t385, A880, H⟩ := H
               have A88 := Aside0.mk A880
               clear A880
               simp only [Option.some.injEq, Prod.mk.injEq] at H
               obtain ⟨rfl, rfl, rfl⟩ := H
               go_wp2_with (first | ((with_reducible refine gate_dst (N := 82) rfl ?_); refine lit_read (Value.int .i64) (fun _ => rfl) 3 (by rfl) (N := 82) rfl y378 ?hr (bl HB.out) (by rw [Ny378.out]; decide) ?_; (case hr => rw [Ny378.out]; go_simp; first | done | exact ⟨rfl, rfl⟩ | rfl); clear HB; intro Ao109 co109 w107 hc380 hC380 HB0; have HB := Aside0.mk HB0; clear HB0) | ((with_reducible refine gate_callee (f := 94) rfl ?_); refine goesL_ (some 83) rfl rfl Tryd.func94 (by kernel_rfl) rfl #[.int .i64 t377, .slice Ao109 y378.length co109] rfl (by (try simp only [List.map_toArray, List.map_cons, List.map_nil]); first | done | rfl) ?_; (with_reducible refine (quoinref03_nth.calls t377 _ _ y378 t381 _ ?side1 ?side2 A87.out).mono ?_); (case side1 => repeat (first | exact hC380 | (with_reducible refine Kd.C_alloc ?_ _) | (with_reducible refine Kd.C_drewN ?_ _) | (with_reducible refine Kd.C_drew ?_))); (case side2 => exact hc380); rintro e w' ⟨rfl, ⟨nd, rfl⟩⟩; refine ⟨_, rfl, ?_⟩) | ((with_reducible refine gate_dst (N := 85) rfl ?_); refine lit_read (Value.int .i64) (fun _ => rfl) 3 (by rfl) (N := 85) rfl y382 ?hr (bl HB.out) (by rw [Ny382.out]; decide) ?_; (case hr => rw [Ny382.out]; go_simp; first | done | exact ⟨rfl, rfl⟩ | rfl); clear HB; intro Ao112 co112 w110 hc384 hC384 HB0; have HB := Aside0.mk HB0; clear HB0) | ((with_reducible refine gate_callee (f := 94) rfl ?_); refine goesL_ (some 86) rfl rfl Tryd.func94 (by kernel_rfl) rfl #[.int .i64 t377, .slice Ao112 y382.length co112] rfl (by (try simp only [List.map_toArray, List.map_cons, List.map_nil]); first | done | rfl) ?_; (with_reducible refine (quoinref03_nth.calls t377 _ _ y382 t385 _ ?side1 ?side2 A88.out).mono ?_); (case side1 => repeat (first | exact hC384 | (with_reducible refine Kd.C_alloc ?_ _) | (with_reducible refine Kd.C_drewN ?_ _) | (with_reducible refine Kd.C_drew ?_))); (case side2 => exact hc384); rintro e w' ⟨rfl, ⟨nd, rfl⟩⟩; refine ⟨_, rfl, ?_⟩))
               go_ret3
               exact ⟨by first | rfl | (simp <;> rfl) | (simp [*] <;> rfl), bl HB.out⟩
              ·rw [if_neg c86] at H
               have c86b0 : decide (0 ≤ t377) = false := decide_eq_false c86
               (first | rw [c86b0] | skip)
               clear c86
               obtain ⟨y386, hy386⟩ : ∃ y_ : List ByteArray, y_ = (([(⟨#[97, 100, 100, 119]⟩ : ByteArray), (⟨#[115, 117, 98, 119]⟩ : ByteArray), (⟨#[115, 108, 108, 119]⟩ : ByteArray), (⟨#[115, 114, 108, 119]⟩ : ByteArray), (⟨#[115, 114, 97, 119]⟩ : ByteArray)] : List ByteArray)) := ⟨_, rfl⟩
               rw [← hy386] at H
               have Ny386 := Aside0.mk hy386
               clear hy386
               replace H := Option.bind_eq_some_iff.mp H
               obtain ⟨t389, A1130, H⟩ := H
               have A113 := Aside0.mk A1130
               clear A1130
               have HS := Aside0.mk H
               clear H
               go_upto_if 91 with (first | ((with_reducible refine gate_dst (N := 88) rfl ?_); refine lit_read Value.string (fun _ => rfl) 9 (by rfl) (N := 88) rfl y386 ?hr (bl HB.out) (by rw [Ny386.out]; decide) ?_; (case hr => rw [Ny386.out]; go_simp; first | done | exact ⟨rfl, rfl⟩ | rfl); clear HB; intro Ao137 co137 w135 hc388 hC388 HB0; have HB := Aside0.mk HB0; clear HB0) | ((with_reducible refine gate_callee (f := 93) rfl ?_); refine goesL_ (some 89) rfl rfl Tryd.func93 (by kernel_rfl) rfl #[.string a0, .slice Ao137 y386.length co137] rfl (by (try simp only [List.map_toArray, List.map_cons, List.map_nil]); first | done | rfl) ?_; (with_reducible refine (quoinref03_kind.calls k a0 _ _ y386 t389 _ ?side1 ?side2 A113.out).mono ?_); (case side1 => repeat (first | exact hC388 | (with_reducible refine Kd.C_alloc ?_ _) | (with_reducible refine Kd.C_drewN ?_ _) | (with_reducible refine Kd.C_drew ?_))); (case side2 => exact hc388); rintro e w' ⟨rfl, ⟨nd, rfl⟩⟩; refine ⟨_, rfl, ?_⟩))
               have H := HS.out
               clear HS
               by_cases c114 : t389 ≥ 0
               ·rw [if_pos c114] at H
                have c114b0 : decide (0 ≤ t389) = true := decide_eq_true c114
                (first | rw [c114b0] | skip)
                clear c114
                obtain ⟨y390, hy390⟩ : ∃ y_ : List Int, y_ = (([0, 0, 1, 5, 5] : List Int)) := ⟨_, rfl⟩
                rw [← hy390] at H
                have Ny390 := Aside0.mk hy390
                clear hy390
                replace H := Option.bind_eq_some_iff.mp H
                obtain ⟨t393, A1150, H⟩ := H
                have A115 := Aside0.mk A1150
                clear A1150
                obtain ⟨y394, hy394⟩ : ∃ y_ : List Int, y_ = (([0, 32, 0, 0, 32] : List Int)) := ⟨_, rfl⟩
                rw [← hy394] at H
                have Ny394 := Aside0.mk hy394
                clear hy394
                replace H := Option.bind_eq_some_iff.mp H
                obtain ⟨t397, A1160, H⟩ := H
                have A116 := Aside0.mk A1160
                clear A1160
                simp only [Option.some.injEq, Prod.mk.injEq] at H
                obtain ⟨rfl, rfl, rfl⟩ := H
                go_wp2_with (first | ((with_reducible refine gate_dst (N := 93) rfl ?_); refine lit_read (Value.int .i64) (fun _ => rfl) 3 (by rfl) (N := 93) rfl y390 ?hr (bl HB.out) (by rw [Ny390.out]; decide) ?_; (case hr => rw [Ny390.out]; go_simp; first | done | exact ⟨rfl, rfl⟩ | rfl); clear HB; intro Ao140 co140 w138 hc392 hC392 HB0; have HB := Aside0.mk HB0; clear HB0) | ((with_reducible refine gate_callee (f := 94) rfl ?_); refine goesL_ (some 94) rfl rfl Tryd.func94 (by kernel_rfl) rfl #[.int .i64 t389, .slice Ao140 y390.length co140] rfl (by (try simp only [List.map_toArray, List.map_cons, List.map_nil]); first | done | rfl) ?_; (with_reducible refine (quoinref03_nth.calls t389 _ _ y390 t393 _ ?side1 ?side2 A115.out).mono ?_); (case side1 => repeat (first | exact hC392 | (with_reducible refine Kd.C_alloc ?_ _) | (with_reducible refine Kd.C_drewN ?_ _) | (with_reducible refine Kd.C_drew ?_))); (case side2 => exact hc392); rintro e w' ⟨rfl, ⟨nd, rfl⟩⟩; refine ⟨_, rfl, ?_⟩) | ((with_reducible refine gate_dst (N := 96) rfl ?_); refine lit_read (Value.int .i64) (fun _ => rfl) 3 (by rfl) (N := 96) rfl y394 ?hr (bl HB.out) (by rw [Ny394.out]; decide) ?_; (case hr => rw [Ny394.out]; go_simp; first | done | exact ⟨rfl, rfl⟩ | rfl); clear HB; intro Ao143 co143 w141 hc396 hC396 HB0; have HB := Aside0.mk HB0; clear HB0) | ((with_reducible refine gate_callee (f := 94) rfl ?_); refine goesL_ (some 97) rfl rfl Tryd.func94 (by kernel_rfl) rfl #[.int .i64 t389, .slice Ao143 y394.length co143] rfl (by (try simp only [List.map_toArray, List.map_cons, List.map_nil]); first | done | rfl) ?_; (with_reducible refine (quoinref03_nth.calls t389 _ _ y394 t397 _ ?side1 ?side2 A116.out).mono ?_); (case side1 => repeat (first | exact hC396 | (with_reducible refine Kd.C_alloc ?_ _) | (with_reducible refine Kd.C_drewN ?_ _) | (with_reducible refine Kd.C_drew ?_))); (case side2 => exact hc396); rintro e w' ⟨rfl, ⟨nd, rfl⟩⟩; refine ⟨_, rfl, ?_⟩))
                go_ret3
                exact ⟨by first | rfl | (simp <;> rfl) | (simp [*] <;> rfl), bl HB.out⟩
               ·rw [if_neg c114] at H
                have c114b0 : decide (0 ≤ t389) = false := decide_eq_false c114
                (first | rw [c114b0] | skip)
                clear c114
                obtain ⟨y398, hy398⟩ : ∃ y_ : List ByteArray, y_ = (([(⟨#[109, 117, 108]⟩ : ByteArray), (⟨#[109, 117, 108, 104]⟩ : ByteArray), (⟨#[109, 117, 108, 104, 115, 117]⟩ : ByteArray), (⟨#[109, 117, 108, 104, 117]⟩ : ByteArray), (⟨#[100, 105, 118]⟩ : ByteArray), (⟨#[100, 105, 118, 117]⟩ : ByteArray), (⟨#[114, 101, 109]⟩ : ByteArray), (⟨#[114, 101, 109, 117]⟩ : ByteArray)] : List ByteArray)) := ⟨_, rfl⟩
                rw [← hy398] at H
                have Ny398 := Aside0.mk hy398
                clear hy398
                replace H := Option.bind_eq_some_iff.mp H
                obtain ⟨t401, A1440, H⟩ := H
                have A144 := Aside0.mk A1440
                clear A1440
                have HS := Aside0.mk H
                clear H
                go_upto_if 102 with (first | ((with_reducible refine gate_dst (N := 99) rfl ?_); refine lit_read Value.string (fun _ => rfl) 9 (by rfl) (N := 99) rfl y398 ?hr (bl HB.out) (by rw [Ny398.out]; decide) ?_; (case hr => rw [Ny398.out]; go_simp; first | done | exact ⟨rfl, rfl⟩ | rfl); clear HB; intro Ao169 co169 w167 hc400 hC400 HB0; have HB := Aside0.mk HB0; clear HB0) | ((with_reducible refine gate_callee (f := 93) rfl ?_); refine goesL_ (some 100) rfl rfl Tryd.func93 (by kernel_rfl) rfl #[.string a0, .slice Ao169 y398.length co169] rfl (by (try simp only [List.map_toArray, List.map_cons, List.map_nil]); first | done | rfl) ?_; (with_reducible refine (quoinref03_kind.calls k a0 _ _ y398 t401 _ ?side1 ?side2 A144.out).mono ?_); (case side1 => repeat (first | exact hC400 | (with_reducible refine Kd.C_alloc ?_ _) | (with_reducible refine Kd.C_drewN ?_ _) | (with_reducible refine Kd.C_drew ?_))); (case side2 => exact hc400); rintro e w' ⟨rfl, ⟨nd, rfl⟩⟩; refine ⟨_, rfl, ?_⟩))
                have H := HS.out
                clear HS
                by_cases c145 : t401 ≥ 0
                ·rw [if_pos c145] at H
                 have c145b0 : decide (0 ≤ t401) = true := decide_eq_true c145
                 (first | rw [c145b0] | skip)
                 clear c145
                 simp only [Option.some.injEq, Prod.mk.injEq] at H
                 obtain ⟨rfl, rfl, rfl⟩ := H
                 go_wp2
                 go_ret3
                 exact ⟨by first | rfl | (simp <;> rfl) | (simp [*] <;> rfl), bl HB.out⟩
                ·rw [if_neg c145] at H
                 have c145b0 : decide (0 ≤ t401) = false := decide_eq_false c145
                 (first | rw [c145b0] | skip)
                 clear c145
                 obtain ⟨y402, hy402⟩ : ∃ y_ : List ByteArray, y_ = (([(⟨#[109, 117, 108, 119]⟩ : ByteArray), (⟨#[100, 105, 118, 119]⟩ : ByteArray), (⟨#[100, 105, 118, 117, 119]⟩ : ByteArray), (⟨#[114, 101, 109, 119]⟩ : ByteArray), (⟨#[114, 101, 109, 117, 119]⟩ : ByteArray)] : List ByteArray)) := ⟨_, rfl⟩
                 rw [← hy402] at H
                 have Ny402 := Aside0.mk hy402
                 clear hy402
                 replace H := Option.bind_eq_some_iff.mp H
                 obtain ⟨t405, A1700, H⟩ := H
                 have A170 := Aside0.mk A1700
                 clear A1700
                 have HS := Aside0.mk H
                 clear H
                 go_upto_if 108 with (first | ((with_reducible refine gate_dst (N := 105) rfl ?_); refine lit_read Value.string (fun _ => rfl) 9 (by rfl) (N := 105) rfl y402 ?hr (bl HB.out) (by rw [Ny402.out]; decide) ?_; (case hr => rw [Ny402.out]; go_simp; first | done | exact ⟨rfl, rfl⟩ | rfl); clear HB; intro Ao199 co199 w197 hc404 hC404 HB0; have HB := Aside0.mk HB0; clear HB0) | ((with_reducible refine gate_callee (f := 93) rfl ?_); refine goesL_ (some 106) rfl rfl Tryd.func93 (by kernel_rfl) rfl #[.string a0, .slice Ao199 y402.length co199] rfl (by (try simp only [List.map_toArray, List.map_cons, List.map_nil]); first | done | rfl) ?_; (with_reducible refine (quoinref03_kind.calls k a0 _ _ y402 t405 _ ?side1 ?side2 A170.out).mono ?_); (case side1 => repeat (first | exact hC404 | (with_reducible refine Kd.C_alloc ?_ _) | (with_reducible refine Kd.C_drewN ?_ _) | (with_reducible refine Kd.C_drew ?_))); (case side2 => exact hc404); rintro e w' ⟨rfl, ⟨nd, rfl⟩⟩; refine ⟨_, rfl, ?_⟩))
                 have H := HS.out
                 clear HS
                 by_cases c171 : t405 ≥ 0
                 ·rw [if_pos c171] at H
                  have c171b0 : decide (0 ≤ t405) = true := decide_eq_true c171
                  (first | rw [c171b0] | skip)
                  clear c171
                  obtain ⟨y406, hy406⟩ : ∃ y_ : List Int, y_ = (([0, 4, 5, 6, 7] : List Int)) := ⟨_, rfl⟩
                  rw [← hy406] at H
                  have Ny406 := Aside0.mk hy406
                  clear hy406
                  replace H := Option.bind_eq_some_iff.mp H
                  obtain ⟨t409, A1720, H⟩ := H
                  have A172 := Aside0.mk A1720
                  clear A1720
                  simp only [Option.some.injEq, Prod.mk.injEq] at H
                  obtain ⟨rfl, rfl, rfl⟩ := H
                  go_wp2_with (first | ((with_reducible refine gate_dst (N := 110) rfl ?_); refine lit_read (Value.int .i64) (fun _ => rfl) 3 (by rfl) (N := 110) rfl y406 ?hr (bl HB.out) (by rw [Ny406.out]; decide) ?_; (case hr => rw [Ny406.out]; go_simp; first | done | exact ⟨rfl, rfl⟩ | rfl); clear HB; intro Ao202 co202 w200 hc408 hC408 HB0; have HB := Aside0.mk HB0; clear HB0) | ((with_reducible refine gate_callee (f := 94) rfl ?_); refine goesL_ (some 111) rfl rfl Tryd.func94 (by kernel_rfl) rfl #[.int .i64 t405, .slice Ao202 y406.length co202] rfl (by (try simp only [List.map_toArray, List.map_cons, List.map_nil]); first | done | rfl) ?_; (with_reducible refine (quoinref03_nth.calls t405 _ _ y406 t409 _ ?side1 ?side2 A172.out).mono ?_); (case side1 => repeat (first | exact hC408 | (with_reducible refine Kd.C_alloc ?_ _) | (with_reducible refine Kd.C_drewN ?_ _) | (with_reducible refine Kd.C_drew ?_))); (case side2 => exact hc408); rintro e w' ⟨rfl, ⟨nd, rfl⟩⟩; refine ⟨_, rfl, ?_⟩))
                  go_ret3
                  exact ⟨by first | rfl | (simp <;> rfl) | (simp [*] <;> rfl), bl HB.out⟩
                 ·rw [if_neg c171] at H
                  have c171b0 : decide (0 ≤ t405) = false := decide_eq_false c171
                  (first | rw [c171b0] | skip)
                  clear c171
                  obtain ⟨y410, hy410⟩ : ∃ y_ : List ByteArray, y_ = (([(⟨#[99, 115, 114, 114, 119]⟩ : ByteArray), (⟨#[99, 115, 114, 114, 115]⟩ : ByteArray), (⟨#[99, 115, 114, 114, 99]⟩ : ByteArray), (⟨#[99, 115, 114, 114, 119, 105]⟩ : ByteArray), (⟨#[99, 115, 114, 114, 115, 105]⟩ : ByteArray), (⟨#[99, 115, 114, 114, 99, 105]⟩ : ByteArray)] : List ByteArray)) := ⟨_, rfl⟩
                  rw [← hy410] at H
                  have Ny410 := Aside0.mk hy410
                  clear hy410
                  replace H := Option.bind_eq_some_iff.mp H
                  obtain ⟨t413, A2030, H⟩ := H
                  have A203 := Aside0.mk A2030
                  clear A2030
                  have HS := Aside0.mk H
                  clear H
                  go_upto_if 116 with (first | ((with_reducible refine gate_dst (N := 113) rfl ?_); refine lit_read Value.string (fun _ => rfl) 9 (by rfl) (N := 113) rfl y410 ?hr (bl HB.out) (by rw [Ny410.out]; decide) ?_; (case hr => rw [Ny410.out]; go_simp; first | done | exact ⟨rfl, rfl⟩ | rfl); clear HB; intro Ao235 co235 w233 hc412 hC412 HB0; have HB := Aside0.mk HB0; clear HB0) | ((with_reducible refine gate_callee (f := 93) rfl ?_); refine goesL_ (some 114) rfl rfl Tryd.func93 (by kernel_rfl) rfl #[.string a0, .slice Ao235 y410.length co235] rfl (by (try simp only [List.map_toArray, List.map_cons, List.map_nil]); first | done | rfl) ?_; (with_reducible refine (quoinref03_kind.calls k a0 _ _ y410 t413 _ ?side1 ?side2 A203.out).mono ?_); (case side1 => repeat (first | exact hC412 | (with_reducible refine Kd.C_alloc ?_ _) | (with_reducible refine Kd.C_drewN ?_ _) | (with_reducible refine Kd.C_drew ?_))); (case side2 => exact hc412); rintro e w' ⟨rfl, ⟨nd, rfl⟩⟩; refine ⟨_, rfl, ?_⟩))
                  have H := HS.out
                  clear HS
                  by_cases c204 : t413 ≥ 0
                  ·rw [if_pos c204] at H
                   have c204b0 : decide (0 ≤ t413) = true := decide_eq_true c204
                   (first | rw [c204b0] | skip)
                   clear c204
                   obtain ⟨y414, hy414⟩ : ∃ y_ : List Int, y_ = (([1, 2, 3, 5, 6, 7] : List Int)) := ⟨_, rfl⟩
                   rw [← hy414] at H
                   have Ny414 := Aside0.mk hy414
                   clear hy414
                   replace H := Option.bind_eq_some_iff.mp H
                   obtain ⟨t417, A2050, H⟩ := H
                   have A205 := Aside0.mk A2050
                   clear A2050
                   simp only [Option.some.injEq, Prod.mk.injEq] at H
                   obtain ⟨rfl, rfl, rfl⟩ := H
                   go_wp2_with (first | ((with_reducible refine gate_dst (N := 118) rfl ?_); refine lit_read (Value.int .i64) (fun _ => rfl) 3 (by rfl) (N := 118) rfl y414 ?hr (bl HB.out) (by rw [Ny414.out]; decide) ?_; (case hr => rw [Ny414.out]; go_simp; first | done | exact ⟨rfl, rfl⟩ | rfl); clear HB; intro Ao238 co238 w236 hc416 hC416 HB0; have HB := Aside0.mk HB0; clear HB0) | ((with_reducible refine gate_callee (f := 94) rfl ?_); refine goesL_ (some 119) rfl rfl Tryd.func94 (by kernel_rfl) rfl #[.int .i64 t413, .slice Ao238 y414.length co238] rfl (by (try simp only [List.map_toArray, List.map_cons, List.map_nil]); first | done | rfl) ?_; (with_reducible refine (quoinref03_nth.calls t413 _ _ y414 t417 _ ?side1 ?side2 A205.out).mono ?_); (case side1 => repeat (first | exact hC416 | (with_reducible refine Kd.C_alloc ?_ _) | (with_reducible refine Kd.C_drewN ?_ _) | (with_reducible refine Kd.C_drew ?_))); (case side2 => exact hc416); rintro e w' ⟨rfl, ⟨nd, rfl⟩⟩; refine ⟨_, rfl, ?_⟩))
                   go_ret3
                   exact ⟨by first | rfl | (simp <;> rfl) | (simp [*] <;> rfl), bl HB.out⟩
                  ·rw [if_neg c204] at H
                   have c204b0 : decide (0 ≤ t413) = false := decide_eq_false c204
                   (first | rw [c204b0] | skip)
                   clear c204
                   obtain ⟨ji239, hji239⟩ : ∃ j_ : Int, (wrap64 ((a0.size : Int) - 1)) = j_ := ⟨_, rfl⟩
                   rw [hji239] at H
                   (try rw [hji239] at A10)
                   (try rw [hji239] at A19)
                   (try rw [hji239] at A27)
                   (try rw [hji239] at A38)
                   (try rw [hji239] at A60)
                   (try rw [hji239] at A85)
                   (try rw [hji239] at A113)
                   (try rw [hji239] at A144)
                   (try rw [hji239] at A170)
                   (try rw [hji239] at A203)
                   have hji239w : (IntKind.i64.wrap ((a0.size : Int) - 1)) = ji239 := (i64_w _).trans hji239
                   by_cases c240 : 0 ≤ (ji239)
                   ·rw [if_pos c240] at H
                    have c240b0 : decide (0 ≤ (ji239)) = true := decide_eq_true c240
                    clear c240
                    by_cases c241 : (ji239) < (a0.size : Int)
                    ·rw [if_pos c241] at H
                     have c241b0 : decide ((ji239) < (a0.size : Int)) = true := decide_eq_true c241
                     clear c241
                     by_cases c243 : (bt a0 (ji239)) = 100
                     ·rw [if_pos c243] at H
                      have c243b0 := beq_iff_eq.mpr c243
                      have c243b1 := bne_eq_false_iff_eq.mpr c243
                      clear c243
                      obtain ⟨ji244, hji244⟩ : ∃ j_ : Int, (wrap64 ((a0.size : Int) - 2)) = j_ := ⟨_, rfl⟩
                      rw [hji244] at H
                      (try rw [hji244] at A10)
                      (try rw [hji244] at A19)
                      (try rw [hji244] at A27)
                      (try rw [hji244] at A38)
                      (try rw [hji244] at A60)
                      (try rw [hji244] at A85)
                      (try rw [hji244] at A113)
                      (try rw [hji244] at A144)
                      (try rw [hji244] at A170)
                      (try rw [hji244] at A203)
                      have hji244w : (IntKind.i64.wrap ((a0.size : Int) - 2)) = ji244 := (i64_w _).trans hji244
                      by_cases c245 : 0 ≤ (ji244)
                      ·rw [if_pos c245] at H
                       have c245b0 := eq_true c245
                       have c245b1 : decide (0 ≤ (ji244)) = true := decide_eq_true c245
                       clear c245
                       by_cases c246 : (ji244) ≤ (a0.size : Int)
                       ·rw [if_pos c246] at H
                        have c246b0 := eq_true c246
                        have c246b1 : decide ((ji244) ≤ (a0.size : Int)) = true := decide_eq_true c246
                        clear c246
                        obtain ⟨y418, hy418⟩ : ∃ y_ : List ByteArray, y_ = (([(⟨#[108, 114]⟩ : ByteArray), (⟨#[115, 99]⟩ : ByteArray), (⟨#[97, 109, 111, 115, 119, 97, 112]⟩ : ByteArray), (⟨#[97, 109, 111, 97, 100, 100]⟩ : ByteArray), (⟨#[97, 109, 111, 120, 111, 114]⟩ : ByteArray), (⟨#[97, 109, 111, 97, 110, 100]⟩ : ByteArray), (⟨#[97, 109, 111, 111, 114]⟩ : ByteArray), (⟨#[97, 109, 111, 109, 105, 110]⟩ : ByteArray), (⟨#[97, 109, 111, 109, 97, 120]⟩ : ByteArray), (⟨#[97, 109, 111, 109, 105, 110, 117]⟩ : ByteArray), (⟨#[97, 109, 111, 109, 97, 120, 117]⟩ : ByteArray)] : List ByteArray)) := ⟨_, rfl⟩
                        rw [← hy418] at H
                        have Ny418 := Aside0.mk hy418
                        clear hy418
                        replace H := Option.bind_eq_some_iff.mp H
                        obtain ⟨t421, A2470, H⟩ := H
                        have A247 := Aside0.mk A2470
                        clear A2470
                        obtain ⟨y422, hy422⟩ : ∃ y_ : List Int, y_ = (([2, 3, 1, 0, 4, 12, 8, 16, 20, 24, 28] : List Int)) := ⟨_, rfl⟩
                        rw [← hy422] at H
                        have Ny422 := Aside0.mk hy422
                        clear hy422
                        replace H := Option.bind_eq_some_iff.mp H
                        obtain ⟨t425, A2480, H⟩ := H
                        have A248 := Aside0.mk A2480
                        clear A2480
                        simp only [Option.some.injEq, Prod.mk.injEq] at H
                        obtain ⟨rfl, rfl, rfl⟩ := H
                        have p242 : 0 ≤ ((ji239) : Int) := of_decide_eq_true (by first | (with_reducible assumption) | assumption)
                        have q242 : (ji239) < (a0.size : Int) := of_decide_eq_true (by first | (with_reducible assumption) | assumption)
                        have hx242 := bt_at a0 (ji239)
                        replace p242 := eq_true p242
                        replace q242 := eq_true q242
                        go_wp2_with (first | ((with_reducible refine gate_dst (N := 132) rfl ?_); refine lit_read Value.string (fun _ => rfl) 9 (by rfl) (N := 132) rfl y418 ?hr (bl HB.out) (by rw [Ny418.out]; decide) ?_; (case hr => rw [Ny418.out]; go_simp; first | done | exact ⟨rfl, rfl⟩ | rfl); clear HB; intro Ao281 co281 w279 hc420 hC420 HB0; have HB := Aside0.mk HB0; clear HB0) | ((with_reducible refine gate_callee (f := 93) rfl ?_); refine goesL_ (some 133) rfl rfl Tryd.func93 (by kernel_rfl) rfl #[.string (a0.extract 0 ((ji244) : Int).toNat), .slice Ao281 y418.length co281] rfl (by (try simp only [List.map_toArray, List.map_cons, List.map_nil]); first | done | (simp only [hji244]; rfl) | rfl | (simp only [List.length_drop, List.length_take]; rfl)) ?_; (with_reducible refine (quoinref03_kind.calls k (a0.extract 0 ((ji244) : Int).toNat) _ _ y418 t421 _ ?side1 ?side2 A247.out).mono ?_); (case side1 => repeat (first | exact hC420 | (with_reducible refine Kd.C_alloc ?_ _) | (with_reducible refine Kd.C_drewN ?_ _) | (with_reducible refine Kd.C_drew ?_))); (case side2 => exact hc420); rintro e w' ⟨rfl, ⟨nd, rfl⟩⟩; refine ⟨_, rfl, ?_⟩) | ((with_reducible refine gate_dst (N := 136) rfl ?_); refine lit_read (Value.int .i64) (fun _ => rfl) 3 (by rfl) (N := 136) rfl y422 ?hr (bl HB.out) (by rw [Ny422.out]; decide) ?_; (case hr => rw [Ny422.out]; go_simp; first | done | exact ⟨rfl, rfl⟩ | rfl); clear HB; intro Ao284 co284 w282 hc424 hC424 HB0; have HB := Aside0.mk HB0; clear HB0) | ((with_reducible refine gate_callee (f := 94) rfl ?_); refine goesL_ (some 137) rfl rfl Tryd.func94 (by kernel_rfl) rfl #[.int .i64 t421, .slice Ao284 y422.length co284] rfl (by (try simp only [List.map_toArray, List.map_cons, List.map_nil]); first | done | rfl) ?_; (with_reducible refine (quoinref03_nth.calls t421 _ _ y422 t425 _ ?side1 ?side2 A248.out).mono ?_); (case side1 => repeat (first | exact hC424 | (with_reducible refine Kd.C_alloc ?_ _) | (with_reducible refine Kd.C_drewN ?_ _) | (with_reducible refine Kd.C_drew ?_))); (case side2 => exact hc424); rintro e w' ⟨rfl, ⟨nd, rfl⟩⟩; refine ⟨_, rfl, ?_⟩))
                        go_ret3
                        exact ⟨by first | rfl | (simp <;> rfl) | (simp only [← hji239, ← hji244]; first | rfl | (simp <;> rfl)) | (simp [*] <;> rfl), bl HB.out⟩
                       ·rw [if_neg c246] at H
                        exact absurd H (by simp)
                      ·rw [if_neg c245] at H
                       exact absurd H (by simp)
                     ·rw [if_neg c243] at H
                      have c243b0 := beq_eq_false_iff_ne.mpr c243
                      have c243b1 := bne_iff_ne.mpr c243
                      obtain ⟨ji285, hji285⟩ : ∃ j_ : Int, (wrap64 ((a0.size : Int) - 2)) = j_ := ⟨_, rfl⟩
                      rw [hji285] at H
                      (try rw [hji285] at A10)
                      (try rw [hji285] at A19)
                      (try rw [hji285] at A27)
                      (try rw [hji285] at A38)
                      (try rw [hji285] at A60)
                      (try rw [hji285] at A85)
                      (try rw [hji285] at A113)
                      (try rw [hji285] at A144)
                      (try rw [hji285] at A170)
                      (try rw [hji285] at A203)
                      have hji285w : (IntKind.i64.wrap ((a0.size : Int) - 2)) = ji285 := (i64_w _).trans hji285
                      by_cases c286 : 0 ≤ (ji285)
                      ·rw [if_pos c286] at H
                       have c286b0 := eq_true c286
                       have c286b1 : decide (0 ≤ (ji285)) = true := decide_eq_true c286
                       clear c286
                       by_cases c287 : (ji285) ≤ (a0.size : Int)
                       ·rw [if_pos c287] at H
                        have c287b0 := eq_true c287
                        have c287b1 : decide ((ji285) ≤ (a0.size : Int)) = true := decide_eq_true c287
                        clear c287
                        obtain ⟨y426, hy426⟩ : ∃ y_ : List ByteArray, y_ = (([(⟨#[108, 114]⟩ : ByteArray), (⟨#[115, 99]⟩ : ByteArray), (⟨#[97, 109, 111, 115, 119, 97, 112]⟩ : ByteArray), (⟨#[97, 109, 111, 97, 100, 100]⟩ : ByteArray), (⟨#[97, 109, 111, 120, 111, 114]⟩ : ByteArray), (⟨#[97, 109, 111, 97, 110, 100]⟩ : ByteArray), (⟨#[97, 109, 111, 111, 114]⟩ : ByteArray), (⟨#[97, 109, 111, 109, 105, 110]⟩ : ByteArray), (⟨#[97, 109, 111, 109, 97, 120]⟩ : ByteArray), (⟨#[97, 109, 111, 109, 105, 110, 117]⟩ : ByteArray), (⟨#[97, 109, 111, 109, 97, 120, 117]⟩ : ByteArray)] : List ByteArray)) := ⟨_, rfl⟩
                        rw [← hy426] at H
                        have Ny426 := Aside0.mk hy426
                        clear hy426
                        replace H := Option.bind_eq_some_iff.mp H
                        obtain ⟨t429, A2880, H⟩ := H
                        have A288 := Aside0.mk A2880
                        clear A2880
                        obtain ⟨y430, hy430⟩ : ∃ y_ : List Int, y_ = (([2, 3, 1, 0, 4, 12, 8, 16, 20, 24, 28] : List Int)) := ⟨_, rfl⟩
                        rw [← hy430] at H
                        have Ny430 := Aside0.mk hy430
                        clear hy430
                        replace H := Option.bind_eq_some_iff.mp H
                        obtain ⟨t433, A2890, H⟩ := H
                        have A289 := Aside0.mk A2890
                        clear A2890
                        simp only [Option.some.injEq, Prod.mk.injEq] at H
                        obtain ⟨rfl, rfl, rfl⟩ := H
                        have p242 : 0 ≤ ((ji239) : Int) := of_decide_eq_true (by first | (with_reducible assumption) | assumption)
                        have q242 : (ji239) < (a0.size : Int) := of_decide_eq_true (by first | (with_reducible assumption) | assumption)
                        have hx242 := bt_at a0 (ji239)
                        replace p242 := eq_true p242
                        replace q242 := eq_true q242
                        go_wp2_with (first | ((with_reducible refine gate_dst (N := 132) rfl ?_); refine lit_read Value.string (fun _ => rfl) 9 (by rfl) (N := 132) rfl y426 ?hr (bl HB.out) (by rw [Ny426.out]; decide) ?_; (case hr => rw [Ny426.out]; go_simp; first | done | exact ⟨rfl, rfl⟩ | rfl); clear HB; intro Ao322 co322 w320 hc428 hC428 HB0; have HB := Aside0.mk HB0; clear HB0) | ((with_reducible refine gate_callee (f := 93) rfl ?_); refine goesL_ (some 133) rfl rfl Tryd.func93 (by kernel_rfl) rfl #[.string (a0.extract 0 ((ji285) : Int).toNat), .slice Ao322 y426.length co322] rfl (by (try simp only [List.map_toArray, List.map_cons, List.map_nil]); first | done | (simp only [hji285]; rfl) | rfl | (simp only [List.length_drop, List.length_take]; rfl)) ?_; (with_reducible refine (quoinref03_kind.calls k (a0.extract 0 ((ji285) : Int).toNat) _ _ y426 t429 _ ?side1 ?side2 A288.out).mono ?_); (case side1 => repeat (first | exact hC428 | (with_reducible refine Kd.C_alloc ?_ _) | (with_reducible refine Kd.C_drewN ?_ _) | (with_reducible refine Kd.C_drew ?_))); (case side2 => exact hc428); rintro e w' ⟨rfl, ⟨nd, rfl⟩⟩; refine ⟨_, rfl, ?_⟩) | ((with_reducible refine gate_dst (N := 136) rfl ?_); refine lit_read (Value.int .i64) (fun _ => rfl) 3 (by rfl) (N := 136) rfl y430 ?hr (bl HB.out) (by rw [Ny430.out]; decide) ?_; (case hr => rw [Ny430.out]; go_simp; first | done | exact ⟨rfl, rfl⟩ | rfl); clear HB; intro Ao325 co325 w323 hc432 hC432 HB0; have HB := Aside0.mk HB0; clear HB0) | ((with_reducible refine gate_callee (f := 94) rfl ?_); refine goesL_ (some 137) rfl rfl Tryd.func94 (by kernel_rfl) rfl #[.int .i64 t429, .slice Ao325 y430.length co325] rfl (by (try simp only [List.map_toArray, List.map_cons, List.map_nil]); first | done | rfl) ?_; (with_reducible refine (quoinref03_nth.calls t429 _ _ y430 t433 _ ?side1 ?side2 A289.out).mono ?_); (case side1 => repeat (first | exact hC432 | (with_reducible refine Kd.C_alloc ?_ _) | (with_reducible refine Kd.C_drewN ?_ _) | (with_reducible refine Kd.C_drew ?_))); (case side2 => exact hc432); rintro e w' ⟨rfl, ⟨nd, rfl⟩⟩; refine ⟨_, rfl, ?_⟩))
                        go_ret3
                        exact ⟨by first | rfl | (simp <;> rfl) | (simp only [← hji239, ← hji285]; first | rfl | (simp <;> rfl)) | (simp [*] <;> rfl), bl HB.out⟩
                       ·rw [if_neg c287] at H
                        exact absurd H (by simp)
                      ·rw [if_neg c286] at H
                       exact absurd H (by simp)
                    ·rw [if_neg c241] at H
                     exact absurd H (by simp)
                   ·rw [if_neg c240] at H
                    exact absurd H (by simp)
end Go.Proofs.YtpijiohiohiilaaDoor.D
