/- dec.Fixed, whose registers' bits are struck in a loop over an array of three: it answers what its Lean function tells. No condition. -/
import Derived.Test.YtpijiohiohiilaaDoorDEnc
import Derived.Test.YtpijiohiohiilaaDoorDDec
import Derived.Test.YtpijiohiohiilaaDoorGReg
import Derived.LoopN
namespace Go.Proofs.YtpijiohiohiilaaDoor.D
open Go.RowKit Go.Proofs.YtpijiohiohiilaaDoorW.PrintWords Go.Proofs.YtpijiohiohiilaaDoorW.PrintLast Go.Proofs.YtpijiohiohiilaaDoorW.PrintMore
attribute [local go_sem] max2_int min2_int max_two min_two max_three min_three max_four min_four
set_option linter.unusedVariables false
set_option linter.unusedSimpArgs false

/-- The five bits from a place on are struck, if there is one. -/
def clr1 (m p : Int) : Int := if 0 ≤ p then Go.bits .andNot .u32 m (shl .u32 31 p) else m
def dec_clear.f (m d s t : Int) : Option Int := some (clr1 (clr1 (clr1 m d) s) t)

/-! ### dec_Fixed: function 29 -/
def dec_Fixed.l0 : Nat → Int → Int → List Int → Int → Int → Option (Int × Int)
 | 0, _, _, _, _, _ => none
 | k + 1, x0, x6, x22, x23, x24 => if x24 < x23 then (if 0 ≤ x24 then (if x24 < (x22.length : Int) then (if 0 ≤ (rd x22 x24) then (dec_Fixed.l0 k x0 (Go.bits .andNot .u32 x6 (shl .u32 1 (rd x22 x24))) x22 x23 (wrap64 (x24 + 1))) else (none)) else (none)) else (none)) else ((dec_registers.f k x0).bind fun bt166 => ((dec_clear.f x6 bt166.1 bt166.2.1 bt166.2.2).bind fun t169 => (some (t169, 0))))
def dec_Fixed.f (k : Nat) (a0 : Int) : Option (Int × Int) := (enc_Places.f k a0).bind fun bt161 => (if bt161.2 = 0 then (dec_Fixed.l0 k a0 4294967295 bt161.1 (bt161.1.length : Int) 0) else (some (0, bt161.2)))
theorem dec_Fixed.mono_l : ∀ k, (∀ y0 y1 y2 y3 y4, LeO (dec_Fixed.l0 k y0 y1 y2 y3 y4) (dec_Fixed.l0 (k + 1) y0 y1 y2 y3 y4))
 | 0 => fun _ _ _ _ _ r h => by simp [dec_Fixed.l0] at h
 | k + 1 => by
  have ih0 := dec_Fixed.mono_l k
  ·intro y0 y1 y2 y3 y4
   unfold dec_Fixed.l0
   repeat' first
   | (with_reducible exact ih0 _ _ _ _ _)
   | (with_reducible exact dec_registers.mono _ _)
   | (with_reducible exact enc_Places.mono _ _)
   | (with_reducible exact LeO.refl _)
   | (with_reducible exact LeO.none _)
   | (with_reducible refine LeO.ite ?_ ?_)
   | (with_reducible refine LeO.bind ?_ (fun _ => ?_))
   | exact LeO.none _
   | refine LeO.ite ?_ ?_
   | refine LeO.bind ?_ (fun _ => ?_)
theorem dec_Fixed.mono : ∀ a0 k, LeO (dec_Fixed.f k a0) (dec_Fixed.f (k + 1) a0) := by
 intro a0 k
 have ih0 := dec_Fixed.mono_l k
 unfold dec_Fixed.f
 repeat' first
   | (with_reducible exact ih0 _ _ _ _ _)
   | (with_reducible exact dec_registers.mono _ _)
   | (with_reducible exact enc_Places.mono _ _)
   | (with_reducible exact LeO.refl _)
   | (with_reducible exact LeO.none _)
   | (with_reducible refine LeO.ite ?_ ?_)
   | (with_reducible refine LeO.bind ?_ (fun _ => ?_))
   | exact LeO.none _
   | refine LeO.ite ?_ ?_
   | refine LeO.bind ?_ (fun _ => ?_)
set_option maxHeartbeats 8000000 in
set_option maxRecDepth 100000 in
theorem dec_Fixed.calls (k : Nat) (a0 : Int) (r1 : Int) (r2 : Int) (w : World) (h : dec_Fixed.f k a0 = some (r1, r2)) :
  Calls Tryd.prog 29 #[.int .u8 a0] w fun e w' => e = .returned (.tuple #[.int .u32 r1, .int .i64 r2]) ∧ Below w.heap.size w w' := by
 have HB := Aside0.mk (Below.refl w.heap.size w)
 have H : ((enc_Places.f k a0).bind fun bt161 => (if bt161.2 = 0 then (dec_Fixed.l0 k a0 4294967295 bt161.1 (bt161.1.length : Int) 0) else (some (0, bt161.2)))) = some (r1, r2) := h
 clear h
 replace H := Option.bind_eq_some_iff.mp H
 obtain ⟨⟨t161, t162⟩, A20, H⟩ := H
 replace H : (if t162 = 0 then (dec_Fixed.l0 k a0 4294967295 t161 (t161.length : Int) 0) else (some (0, t162))) = some (r1, r2) := H
 have A2 := Aside0.mk A20
 clear A20
 by_cases c3 : t162 = 0
 ·rw [if_pos c3] at H
  have c3b0 := beq_iff_eq.mpr c3
  have c3b1 := bne_eq_false_iff_eq.mpr c3
  clear c3
  have H' := Aside0.mk H
  clear H
  go_enter Tryd.func29, Tryd.ntmps29
  go_wp2_with (first | ((with_reducible refine gate_callee (f := 43) rfl ?_); refine goesL_ (some 16) rfl rfl Tryd.func43 (by kernel_rfl) rfl #[.int .u8 a0] rfl (by (try simp only [List.map_toArray, List.map_cons, List.map_nil]); first | done | rfl) ?_; (with_reducible refine (enc_Places.calls k a0 t161 t162 _ A2.out).mono ?_); rintro e w4 ⟨v163, rfl, ho0, hb⟩; refine ⟨_, rfl, ?_⟩; have n0_ := Aside0.mk (Kd.R_lower ho0 (below_size (bl HB.out))); have n1_ := Aside0.mk (below_step (bl HB.out) hb); clear HB; have HO164 := n0_; have HB := n1_; clear n0_ n1_; (try clear hb); (try clear hb2); (try clear hk); (try clear hi); (try clear ho0); obtain ⟨Ao5, co5, eo5⟩ := Kd.R_slice HO164.out; subst eo5))
  go_loopg [6, 24] k (fun kq v6 v24 w' => ∃ (x6_1 : Int) (x24_1 : Int), v6 = .int .u32 x6_1 ∧ v24 = .int .i64 x24_1 ∧ Aside0 (dec_Fixed.l0 kq a0 x6_1 t161 (t161.length : Int) x24_1 = some (r1, r2)) ∧ Aside0 (kq ≤ k) ∧ Aside0 (Kd.R (Kd.int .i64) 3 w' w.heap.size (fun _ => True) (.slice Ao5 t161.length co5) t161) ∧ Aside0 (Below w.heap.size w w'))
  case atStart => exact ⟨(4294967295), (0), (by first | rfl | (simp; done) | (simp only [i64_w, i32_w]; first | done | rfl | (simp; done)) | (simp [*]; done)), (by first | rfl | (simp; done) | (simp only [i64_w, i32_w]; first | done | rfl | (simp; done)) | (simp [*]; done)), H', ⟨Nat.le_refl _⟩, ⟨rm HO164.out⟩, ⟨bl HB.out⟩⟩
  case round =>
   clear H'
   try clear c2
   try clear p2
   try clear c3
   try clear c3b0
   try clear c3b1
   try clear c4
   obtain ⟨x6_1, x24_1, rfl, rfl, HA, HK1, HO_22, HB⟩ := hrel
   cases gk with
   | zero => exact absurd HA.out (by simp [dec_Fixed.l0])
   | succ k1 =>
    have H := HA.out
    clear HA
    simp only [dec_Fixed.l0] at H
    by_cases c6 : x24_1 < (t161.length : Int)
    ·rw [if_pos c6] at H
     have c6b0 : decide (x24_1 < (t161.length : Int)) = true := decide_eq_true c6
     clear c6
     by_cases c7 : 0 ≤ x24_1
     ·rw [if_pos c7] at H
      have c7b0 : decide (0 ≤ x24_1) = true := decide_eq_true c7
      clear c7
      by_cases c8 : x24_1 < (t161.length : Int)
      ·rw [if_pos c8] at H
       have c8b0 : decide (x24_1 < (t161.length : Int)) = true := decide_eq_true c8
       clear c8
       by_cases c9 : 0 ≤ (rd t161 x24_1)
       ·rw [if_pos c9] at H
        have c9b0 := eq_true c9
        have c9b1 : decide (0 ≤ (rd t161 x24_1)) = true := decide_eq_true c9
        clear c9
        obtain ⟨ji10, hji10⟩ : ∃ j_ : Int, (shl .u32 1 (rd t161 x24_1)) = j_ := ⟨_, rfl⟩
        replace H : (dec_Fixed.l0 k1 a0 (Go.bits .andNot .u32 x6_1 (ji10)) t161 (t161.length : Int) (wrap64 (x24_1 + 1))) = some (r1, r2) := by first | (rw [hji10] at H; exact H) | (simp only [hji10] at H ⊢; exact H)
        have hji10_ : (IntKind.u32.wrap (1 * 2 ^ min (rd t161 x24_1).toNat 32)) = ji10 := hji10
        have hji10z : (rd t161 x24_1) ≤ 32 → (IntKind.u32.wrap (1 * 2 ^ (rd t161 x24_1).toNat)) = ji10 := shl_small hji10
        have hji10u : (IntKind.u32.wrap (2 ^ min (rd t161 x24_1).toNat 32)) = ji10 := by have h_ := hji10_; rw [Int.one_mul] at h_; exact h_
        have hji10v : (rd t161 x24_1) ≤ 32 → (IntKind.u32.wrap (2 ^ (rd t161 x24_1).toNat)) = ji10 := fun hle_ => by have h_ := hji10z hle_; rw [Int.one_mul] at h_; exact h_
        have H' := Aside0.mk H
        clear H
        have p165 : 0 ≤ (x24_1 : Int) := of_decide_eq_true (by first | (with_reducible assumption) | assumption)
        have q165 : x24_1 < (t161.length : Int) := of_decide_eq_true (by first | (with_reducible assumption) | assumption)
        obtain ⟨ad165, e165, hx165_0⟩ := Kd.at_int (Kd.R_reads' HO_22.out).2.2 x24_1 p165 q165
        cases e165
        replace p165 := eq_true p165
        replace q165 := eq_true q165
        go_wp2
        go_roundg k1
        case measure => have := HK1.out; omega
        case rel => exact ⟨(Go.bits .andNot .u32 x6_1 (ji10)), (wrap64 (x24_1 + 1)), (by first | rfl | (simp; done) | (simp only [i64_w, i32_w]; first | done | rfl | (simp; done)) | (simp only [← hji10] <;> (first | rfl | simp)) | (simp [*]; done)), (by first | rfl | (simp; done) | (simp only [i64_w, i32_w]; first | done | rfl | (simp; done)) | (simp [*]; done)), H', ⟨by have := HK1.out; omega⟩, ⟨rm HO_22.out⟩, ⟨bl HB.out⟩⟩
       ·rw [if_neg c9] at H
        exact absurd H (by simp)
      ·rw [if_neg c8] at H
       exact absurd H (by simp)
     ·rw [if_neg c7] at H
      exact absurd H (by simp)
    ·rw [if_neg c6] at H
     have c6b0 : decide (x24_1 < (t161.length : Int)) = false := decide_eq_false c6
     clear c6
     replace H := Option.bind_eq_some_iff.mp H
     obtain ⟨⟨t166, t167, t168⟩, A110, H⟩ := H
     replace H : ((dec_clear.f x6_1 t166 t167 t168).bind fun t169 => (some (t169, 0))) = some (r1, r2) := H
     have A11 := Aside0.mk A110
     clear A110
     replace H := Option.bind_eq_some_iff.mp H
     obtain ⟨t169, A120, H⟩ := H
     replace H : (some (t169, 0)) = some (r1, r2) := H
     have A12 := Aside0.mk A120
     clear A120
     simp only [Option.some.injEq, Prod.mk.injEq] at H
     obtain ⟨rfl, rfl⟩ := H
     have E12 := Option.some.inj A12.out
     clear A12
     have ix0 : ∀ w, (Instr.index 95 (.agg #[.int .i64 t166, .int .i64 t167, .int .i64 t168]) (.int .i64 0)).run Tryd.prog w = .ok (.int .i64 t166) w := fun _ => by kernel_rfl
     have ix1 : ∀ w, (Instr.index 95 (.agg #[.int .i64 t166, .int .i64 t167, .int .i64 t168]) (.int .i64 1)).run Tryd.prog w = .ok (.int .i64 t167) w := fun _ => by kernel_rfl
     have ix2 : ∀ w, (Instr.index 95 (.agg #[.int .i64 t166, .int .i64 t167, .int .i64 t168]) (.int .i64 2)).run Tryd.prog w = .ok (.int .i64 t168) w := fun _ => by kernel_rfl
     have E := Aside0.mk E12
     clear E12
     go_wp2_with (first | ((with_reducible refine gate_callee (f := 61) rfl ?_); refine goesL_ (some 35) rfl rfl Tryd.func61 (by kernel_rfl) rfl #[.int .u8 a0] rfl (by (try simp only [List.map_toArray, List.map_cons, List.map_nil]); first | done | rfl) ?_; (with_reducible refine (dec_registers.calls k1 a0 t166 t167 t168 _ A11.out).mono ?_); rintro e w' ⟨rfl, ⟨nd, rfl⟩⟩; refine ⟨_, rfl, ?_⟩))
     refine wp_loop_rounds 4 ?_
     by_cases h0 : 0 ≤ t166
     ·have y0 := eq_true h0
      have x0 : decide (0 ≤ t166) = true := decide_eq_true h0
      by_cases h1 : 0 ≤ t167
      ·have y1 := eq_true h1
       have x1 : decide (0 ≤ t167) = true := decide_eq_true h1
       by_cases h2 : 0 ≤ t168
       ·have y2 := eq_true h2
        have x2 : decide (0 ≤ t168) = true := decide_eq_true h2
        repeat (rw [rounds_succ]; go_wp2)
        go_ret2
        exact ⟨by rw [← E.out]; first | rfl | (simp only [clr1, y0, y1, y2, if_true, if_false]; rfl) | (simp [clr1, shl, y0, y1, y2]; done), bl HB.out⟩
       ·have y2 := eq_false h2
        have x2 : decide (0 ≤ t168) = false := decide_eq_false h2
        repeat (rw [rounds_succ]; go_wp2)
        go_ret2
        exact ⟨by rw [← E.out]; first | rfl | (simp only [clr1, y0, y1, y2, if_true, if_false]; rfl) | (simp [clr1, shl, y0, y1, y2]; done), bl HB.out⟩
      ·have y1 := eq_false h1
       have x1 : decide (0 ≤ t167) = false := decide_eq_false h1
       by_cases h2 : 0 ≤ t168
       ·have y2 := eq_true h2
        have x2 : decide (0 ≤ t168) = true := decide_eq_true h2
        repeat (rw [rounds_succ]; go_wp2)
        go_ret2
        exact ⟨by rw [← E.out]; first | rfl | (simp only [clr1, y0, y1, y2, if_true, if_false]; rfl) | (simp [clr1, shl, y0, y1, y2]; done), bl HB.out⟩
       ·have y2 := eq_false h2
        have x2 : decide (0 ≤ t168) = false := decide_eq_false h2
        repeat (rw [rounds_succ]; go_wp2)
        go_ret2
        exact ⟨by rw [← E.out]; first | rfl | (simp only [clr1, y0, y1, y2, if_true, if_false]; rfl) | (simp [clr1, shl, y0, y1, y2]; done), bl HB.out⟩
     ·have y0 := eq_false h0
      have x0 : decide (0 ≤ t166) = false := decide_eq_false h0
      by_cases h1 : 0 ≤ t167
      ·have y1 := eq_true h1
       have x1 : decide (0 ≤ t167) = true := decide_eq_true h1
       by_cases h2 : 0 ≤ t168
       ·have y2 := eq_true h2
        have x2 : decide (0 ≤ t168) = true := decide_eq_true h2
        repeat (rw [rounds_succ]; go_wp2)
        go_ret2
        exact ⟨by rw [← E.out]; first | rfl | (simp only [clr1, y0, y1, y2, if_true, if_false]; rfl) | (simp [clr1, shl, y0, y1, y2]; done), bl HB.out⟩
       ·have y2 := eq_false h2
        have x2 : decide (0 ≤ t168) = false := decide_eq_false h2
        repeat (rw [rounds_succ]; go_wp2)
        go_ret2
        exact ⟨by rw [← E.out]; first | rfl | (simp only [clr1, y0, y1, y2, if_true, if_false]; rfl) | (simp [clr1, shl, y0, y1, y2]; done), bl HB.out⟩
      ·have y1 := eq_false h1
       have x1 : decide (0 ≤ t167) = false := decide_eq_false h1
       by_cases h2 : 0 ≤ t168
       ·have y2 := eq_true h2
        have x2 : decide (0 ≤ t168) = true := decide_eq_true h2
        repeat (rw [rounds_succ]; go_wp2)
        go_ret2
        exact ⟨by rw [← E.out]; first | rfl | (simp only [clr1, y0, y1, y2, if_true, if_false]; rfl) | (simp [clr1, shl, y0, y1, y2]; done), bl HB.out⟩
       ·have y2 := eq_false h2
        have x2 : decide (0 ≤ t168) = false := decide_eq_false h2
        repeat (rw [rounds_succ]; go_wp2)
        go_ret2
        exact ⟨by rw [← E.out]; first | rfl | (simp only [clr1, y0, y1, y2, if_true, if_false]; rfl) | (simp [clr1, shl, y0, y1, y2]; done), bl HB.out⟩
 ·rw [if_neg c3] at H
  have c3b0 := beq_eq_false_iff_ne.mpr c3
  have c3b1 := bne_iff_ne.mpr c3
  simp only [Option.some.injEq, Prod.mk.injEq] at H
  obtain ⟨rfl, rfl⟩ := H
  go_enter Tryd.func29, Tryd.ntmps29
  go_wp2_with (first | ((with_reducible refine gate_callee (f := 43) rfl ?_); refine goesL_ (some 16) rfl rfl Tryd.func43 (by kernel_rfl) rfl #[.int .u8 a0] rfl (by (try simp only [List.map_toArray, List.map_cons, List.map_nil]); first | done | rfl) ?_; (with_reducible refine (enc_Places.calls k a0 t161 t162 _ A2.out).mono ?_); rintro e w13 ⟨v163, rfl, ho0, hb⟩; refine ⟨_, rfl, ?_⟩; have n0_ := Aside0.mk (Kd.R_lower ho0 (below_size (bl HB.out))); have n1_ := Aside0.mk (below_step (bl HB.out) hb); clear HB; have HO164 := n0_; have HB := n1_; clear n0_ n1_; (try clear hb); (try clear hb2); (try clear hk); (try clear hi); (try clear ho0)))
  go_ret2
  exact ⟨by first | rfl | (simp <;> rfl) | (simp [*] <;> rfl), bl HB.out⟩
end Go.Proofs.YtpijiohiohiilaaDoor.D
