/- Walks and rows of the laws of quoin: each Lean function here tells just what the Go function of its name answers. Conditions: none but those that a row itself names. Written by a program of this session (wip/reprint.py) over the kit print, and turned by it. -/
import Derived.Test.YtpijiohiohiilaaDoorD0
import Derived.Test.YtpijiohiohiilaaDoorDRef18a
import Derived.Test.YtpijiohiohiilaaDoorGInsn
import Derived.Test.YtpijiohiohiilaaDoorGLi
namespace Go.Proofs.YtpijiohiohiilaaDoor.D
open Go.RowKit Go.Proofs.YtpijiohiohiilaaDoorW.PrintWords Go.Proofs.YtpijiohiohiilaaDoorW.PrintLast Go.Proofs.YtpijiohiohiilaaDoorW.PrintMore
attribute [local go_sem] max2_int min2_int max_two min_two max_three min_three max_four min_four   -- for this text's walks alone
set_option linter.unusedVariables false
set_option linter.unusedSimpArgs false

/-! ### quoinlaw18_is: function 31 -/
def quoinlaw18_is.f (k : Nat) (a0 : Int) (l1 : List (S33)) : Option (Bool) := (li_Steps.f k 5 a0).bind fun bt279 => (if bt279.2 = 0 then ((quoinref18_Same.f k bt279.1 l1).bind fun t283 => (some t283)) else (none))
theorem quoinlaw18_is.mono : ∀ a0 a1 k, LeO (quoinlaw18_is.f k a0 a1) (quoinlaw18_is.f (k + 1) a0 a1) := by
  intro a0 a1 k
  unfold quoinlaw18_is.f
  repeat' first
      | (with_reducible exact li_Steps.mono _ _ _)
      | (with_reducible exact quoinref18_Same.mono _ _ _)
      | (with_reducible exact LeO.refl _)
      | (with_reducible exact LeO.none _)
      | (with_reducible refine LeO.ite ?_ ?_)
      | (with_reducible refine LeO.bind ?_ (fun _ => ?_))
      | exact li_Steps.mono _ _ _
      | exact quoinref18_Same.mono _ _ _
      | exact LeO.none _
      | refine LeO.ite ?_ ?_
      | refine LeO.bind ?_ (fun _ => ?_)
set_option maxHeartbeats 8000000 in
set_option maxRecDepth 100000 in
theorem quoinlaw18_is.calls (k : Nat) (a0 : Int) (A1 : Option Addr) (c1 : Nat) (l1 : List (S33)) (r : Bool) (w : World) (hr1 : Kd.C k33 w A1 l1.length l1) (hc1 : l1.length ≤ c1) (hN : LaidN w) (h : quoinlaw18_is.f k a0 l1 = some r) :
    Calls Tryd.prog 31 #[.int .i64 a0, .slice A1 l1.length c1] w fun e w' => e = .returned (.bool r) ∧ Below w.heap.size w w' := by
  have HLN := Aside0.mk hN
  clear hN
  have HR1 := Aside0.mk hr1
  have HC1 := Aside0.mk hc1
  clear hr1 hc1
  have HB := Aside0.mk (Below.refl w.heap.size w)
  have H : ((li_Steps.f k 5 a0).bind fun bt279 => (if bt279.2 = 0 then ((quoinref18_Same.f k bt279.1 l1).bind fun t283 => (some t283)) else (none))) = some r := h
  clear h
  replace H := Option.bind_eq_some_iff.mp H
  obtain ⟨⟨t279, t280⟩, A30, H⟩ := H
  replace H : (if t280 = 0 then ((quoinref18_Same.f k t279 l1).bind fun t283 => (some t283)) else (none)) = some r := H
  have A3 := Aside0.mk A30
  clear A30
  by_cases c4 : t280 = 0
  · rw [if_pos c4] at H
    have c4b0 : (t280 == 0) = true := beq_iff_eq.mpr c4
    have c4b1 : (t280 != 0) = false := bne_eq_false_iff_eq.mpr c4
    clear c4
    replace H := Option.bind_eq_some_iff.mp H
    obtain ⟨t283, A50, H⟩ := H
    replace H : (some t283) = some r := H
    have A5 := Aside0.mk A50
    clear A50
    obtain rfl := Option.some.inj H
    go_enter Tryd.func31, Tryd.ntmps31
    go_wp2_with (first | ((with_reducible refine gate_callee (f := 33) rfl ?_); refine goesL_ (some 9) rfl rfl Tryd.func33 (by kernel_rfl) rfl #[.int .i64 5, .int .i64 a0] rfl (by (try simp only [List.map_toArray, List.map_cons, List.map_nil]); first | done | rfl | (simp only [List.length_drop, List.length_take]; rfl)) ?_; (with_reducible refine (li_Steps.calls k 5 a0 t279 t280 _ ?sideLN A3.out).mono ?_); (case sideLN => (repeat (first | exact HLN.out | (with_reducible refine LaidN.alloc ?_ _) | (with_reducible refine LaidN.drewN ?_ _) | (with_reducible refine LaidN.drew ?_) | (refine LaidN.below HLN.out ?_; repeat (first | (with_reducible first | exact HB.out | apply below_alloc | apply pw_below_drewN | apply below_drew1) | exact HB.out))))); rintro e w6 ⟨v281, rfl, ho0, hb⟩; refine ⟨_, rfl, ?_⟩; have n0_ := Aside0.mk (Kd.R_lower ho0 (below_size (by repeat (first | (with_reducible first | exact HB.out | apply below_alloc | apply pw_below_drewN | apply below_drew1) | exact HB.out)))); have n1_ := Aside0.mk (below_step (by repeat (first | (with_reducible first | exact HB.out | apply below_alloc | apply pw_below_drewN | apply below_drew1) | exact HB.out)) hb); clear HB; have HO282 := n0_; have HB := n1_; clear n0_ n1_; (try clear hb); (try clear hb2); (try clear hk); (try clear hi); (try clear ho0); obtain ⟨Ao7, co7, eo7⟩ := Kd.R_slice HO282.out; subst eo7) | (go_at_call 37; (with_reducible refine (quoinref18_Same.calls k _ _ t279 _ _ l1 t283 _ ?side1 ?side2 ?side3 ?side4 A5.out).mono ?_); (case side1 => repeat (first | exact (Kd.R_reads' HO282.out).2.2 | (with_reducible refine Kd.C_alloc ?_ _) | (with_reducible refine Kd.C_drewN ?_ _) | (with_reducible refine Kd.C_drew ?_))); (case side2 => exact (Kd.R_reads' HO282.out).2.1); (case side3 => repeat (first | exact (Kd.C_below HR1.out HB.out) | (with_reducible refine Kd.C_alloc ?_ _) | (with_reducible refine Kd.C_drewN ?_ _) | (with_reducible refine Kd.C_drew ?_))); (case side4 => exact HC1.out); rintro e w' ⟨rfl, ⟨nd, rfl⟩⟩))
    go_ret
    exact ⟨by first | rfl | (simp [errW_none, errW_some] <;> rfl) | (simp [*, errW_none, errW_some] <;> rfl), by repeat (first | (with_reducible first | exact HB.out | apply below_alloc | apply pw_below_drewN | apply below_drew1) | exact HB.out)⟩
  · rw [if_neg c4] at H
    exact absurd H (by simp)

/-! ### quoinlaw18_alive: function 34 -/
def quoinlaw18_alive.f (k : Nat)  : Option (Bool) := (quoinlaw18_is.f k 7 (([(⟨22, 5, 0, 0, 7⟩ : S33)] : List (S33)))).bind fun t287 => (if t287 = true then ((quoinlaw18_is.f k 4096 (([(⟨1, 5, 0, 0, 1⟩ : S33)] : List (S33)))).bind fun t291 => (if t291 = true then ((quoinlaw18_is.f k (-2049) (([(⟨1, 5, 0, 0, 1048575⟩ : S33), (⟨41, 5, 5, 0, 2047⟩ : S33)] : List (S33)))).bind fun t295 => (some t295)) else (none))) else (none))
theorem quoinlaw18_alive.mono : ∀ k, LeO (quoinlaw18_alive.f k ) (quoinlaw18_alive.f (k + 1) ) := by
  intro  k
  unfold quoinlaw18_alive.f
  repeat' first
      | (with_reducible exact quoinlaw18_is.mono _ _ _)
      | (with_reducible exact LeO.refl _)
      | (with_reducible exact LeO.none _)
      | (with_reducible refine LeO.ite ?_ ?_)
      | (with_reducible refine LeO.bind ?_ (fun _ => ?_))
      | exact quoinlaw18_is.mono _ _ _
      | exact LeO.none _
      | refine LeO.ite ?_ ?_
      | refine LeO.bind ?_ (fun _ => ?_)
set_option maxHeartbeats 8000000 in
set_option maxRecDepth 100000 in
theorem quoinlaw18_alive.calls (k : Nat)  (r : Bool) (w : World) (hN : LaidN w) (h : quoinlaw18_alive.f k  = some r) :
    Calls Tryd.prog 34 #[] w fun e w' => e = .returned (.bool r) ∧ Below w.heap.size w w' := by
  have HLN := Aside0.mk hN
  clear hN
  have hu33 := Tryd.underlying33
  have HB := Aside0.mk (Below.refl w.heap.size w)
  have H : ((quoinlaw18_is.f k 7 (([(⟨22, 5, 0, 0, 7⟩ : S33)] : List (S33)))).bind fun t287 => (if t287 = true then ((quoinlaw18_is.f k 4096 (([(⟨1, 5, 0, 0, 1⟩ : S33)] : List (S33)))).bind fun t291 => (if t291 = true then ((quoinlaw18_is.f k (-2049) (([(⟨1, 5, 0, 0, 1048575⟩ : S33), (⟨41, 5, 5, 0, 2047⟩ : S33)] : List (S33)))).bind fun t295 => (some t295)) else (none))) else (none))) = some r := h
  clear h
  obtain ⟨y284, hy284⟩ : ∃ y_ : List (S33), y_ = (([(⟨22, 5, 0, 0, 7⟩ : S33)] : List (S33))) := ⟨_, rfl⟩
  replace H : ((quoinlaw18_is.f k 7 y284).bind fun t287 => (if t287 = true then ((quoinlaw18_is.f k 4096 (([(⟨1, 5, 0, 0, 1⟩ : S33)] : List (S33)))).bind fun t291 => (if t291 = true then ((quoinlaw18_is.f k (-2049) (([(⟨1, 5, 0, 0, 1048575⟩ : S33), (⟨41, 5, 5, 0, 2047⟩ : S33)] : List (S33)))).bind fun t295 => (some t295)) else (none))) else (none))) = some r := by first | (rw [hy284]; with_reducible exact H) | (have H2_ := (Option.bind_some _ _).symm.trans H; rw [hy284]; with_reducible exact H2_) | (have H2_ := (Option.bind_some _ _).symm.trans H; with_reducible exact H2_) | with_reducible exact H | (rw [hy284]; exact H) | exact H
  have Ny284 := Aside0.mk hy284
  clear hy284
  replace H := Option.bind_eq_some_iff.mp H
  obtain ⟨t287, A10, H⟩ := H
  replace H : (if t287 = true then ((quoinlaw18_is.f k 4096 (([(⟨1, 5, 0, 0, 1⟩ : S33)] : List (S33)))).bind fun t291 => (if t291 = true then ((quoinlaw18_is.f k (-2049) (([(⟨1, 5, 0, 0, 1048575⟩ : S33), (⟨41, 5, 5, 0, 2047⟩ : S33)] : List (S33)))).bind fun t295 => (some t295)) else (none))) else (none)) = some r := H
  have A1 := Aside0.mk A10
  clear A10
  by_cases c2 : t287 = true
  · subst c2
    have H1 : ((quoinlaw18_is.f k 4096 (([(⟨1, 5, 0, 0, 1⟩ : S33)] : List (S33)))).bind fun t291 => (if t291 = true then ((quoinlaw18_is.f k (-2049) (([(⟨1, 5, 0, 0, 1048575⟩ : S33), (⟨41, 5, 5, 0, 2047⟩ : S33)] : List (S33)))).bind fun t295 => (some t295)) else (none))) = some r := by rw [if_pos rfl] at H; exact H
    clear H
    have H := H1
    clear H1
    obtain ⟨y288, hy288⟩ : ∃ y_ : List (S33), y_ = (([(⟨1, 5, 0, 0, 1⟩ : S33)] : List (S33))) := ⟨_, rfl⟩
    replace H : ((quoinlaw18_is.f k 4096 y288).bind fun t291 => (if t291 = true then ((quoinlaw18_is.f k (-2049) (([(⟨1, 5, 0, 0, 1048575⟩ : S33), (⟨41, 5, 5, 0, 2047⟩ : S33)] : List (S33)))).bind fun t295 => (some t295)) else (none))) = some r := by first | (rw [hy288]; with_reducible exact H) | (have H2_ := (Option.bind_some _ _).symm.trans H; rw [hy288]; with_reducible exact H2_) | (have H2_ := (Option.bind_some _ _).symm.trans H; with_reducible exact H2_) | with_reducible exact H | (rw [hy288]; exact H) | exact H
    have Ny288 := Aside0.mk hy288
    clear hy288
    replace H := Option.bind_eq_some_iff.mp H
    obtain ⟨t291, A30, H⟩ := H
    replace H : (if t291 = true then ((quoinlaw18_is.f k (-2049) (([(⟨1, 5, 0, 0, 1048575⟩ : S33), (⟨41, 5, 5, 0, 2047⟩ : S33)] : List (S33)))).bind fun t295 => (some t295)) else (none)) = some r := H
    have A3 := Aside0.mk A30
    clear A30
    by_cases c4 : t291 = true
    · subst c4
      have H1 : ((quoinlaw18_is.f k (-2049) (([(⟨1, 5, 0, 0, 1048575⟩ : S33), (⟨41, 5, 5, 0, 2047⟩ : S33)] : List (S33)))).bind fun t295 => (some t295)) = some r := by rw [if_pos rfl] at H; exact H
      clear H
      have H := H1
      clear H1
      obtain ⟨y292, hy292⟩ : ∃ y_ : List (S33), y_ = (([(⟨1, 5, 0, 0, 1048575⟩ : S33), (⟨41, 5, 5, 0, 2047⟩ : S33)] : List (S33))) := ⟨_, rfl⟩
      replace H : ((quoinlaw18_is.f k (-2049) y292).bind fun t295 => (some t295)) = some r := by first | (rw [hy292]; with_reducible exact H) | (have H2_ := (Option.bind_some _ _).symm.trans H; rw [hy292]; with_reducible exact H2_) | (have H2_ := (Option.bind_some _ _).symm.trans H; with_reducible exact H2_) | with_reducible exact H | (rw [hy292]; exact H) | exact H
      have Ny292 := Aside0.mk hy292
      clear hy292
      replace H := Option.bind_eq_some_iff.mp H
      obtain ⟨t295, A50, H⟩ := H
      replace H : (some t295) = some r := H
      have A5 := Aside0.mk A50
      clear A50
      obtain rfl := Option.some.inj H
      go_enter Tryd.func34, Tryd.ntmps34
      go_wp2_with (first | ((with_reducible refine gate_dst (N := 2) rfl ?_); (try (refine gate_guard (by rfl) ?_; dsimp only)); refine Kd.R_lit k33 _ 33 ?hg (N := 2) ?hd (xs := ([(⟨22, 5, 0, 0, 7⟩ : S33)] : List (S33))) (inner := [.int .u8 22, .int .i64 5, .int .i64 0, .int .i64 0, .int .i64 7]) (ok := fun _ => True) (okp := fun _ => True) ?hr ?hp (fun _ hk => hk) trivial (Below.refl _ _) (Nat.le_refl _) (by simp) ?_; (case hd => rfl); (case hg => rfl); (case hr => first | (go_simp; done) | (go_simp; rfl)); (case hp => exact (Reps.c5 (show Kd.M k33 _ _ _ (⟨22, 5, 0, 0, 7⟩ : S33) [.int .u8 22, .int .i64 5, .int .i64 0, .int .i64 0, .int .i64 7] from (k33_mkM _ _ _ (⟨22, 5, 0, 0, 7⟩ : S33) )) (Reps.none _ _))); intro v285 w6 ho7 hb hg_ hnew_; clear hg_ hnew_; (first | rw [← Ny284.out] at ho7 | (simp only [Int.reduceToNat] at ho7; rw [← Ny284.out] at ho7)); have n0_ := Aside0.mk (Kd.R_lower ho7 (below_size (by repeat (first | (with_reducible first | exact HB.out | apply below_alloc | apply pw_below_drewN | apply below_drew1) | exact HB.out)))); have n1_ := Aside0.mk (below_step (by repeat (first | (with_reducible first | exact HB.out | apply below_alloc | apply pw_below_drewN | apply below_drew1) | exact HB.out)) hb); clear HB; have HO286 := n0_; have HB := n1_; clear n0_ n1_; clear hb ho7; obtain ⟨Ao8, co8, eo8⟩ := Kd.R_slice HO286.out; subst eo8) | ((with_reducible refine gate_callee (f := 31) rfl ?_); refine goesL_ (some 3) rfl rfl Tryd.func31 (by kernel_rfl) rfl #[.int .i64 7, .slice Ao8 y284.length co8] rfl (by (try simp only [List.map_toArray, List.map_cons, List.map_nil]); first | done | rfl | (simp only [List.length_drop, List.length_take]; rfl)) ?_; (with_reducible refine (quoinlaw18_is.calls k 7 _ _ y284 true _ ?side1 ?side2 ?sideLN A1.out).mono ?_); (case sideLN => (repeat (first | exact HLN.out | (with_reducible refine LaidN.alloc ?_ _) | (with_reducible refine LaidN.drewN ?_ _) | (with_reducible refine LaidN.drew ?_) | (refine LaidN.below HLN.out ?_; repeat (first | (with_reducible first | exact HB.out | apply below_alloc | apply pw_below_drewN | apply below_drew1) | exact HB.out))))); (case side1 => repeat (first | exact (Kd.R_reads' HO286.out).2.2 | (with_reducible refine Kd.C_alloc ?_ _) | (with_reducible refine Kd.C_drewN ?_ _) | (with_reducible refine Kd.C_drew ?_))); (case side2 => exact (Kd.R_reads' HO286.out).2.1); rintro e w9 ⟨rfl, hb⟩; refine ⟨_, rfl, ?_⟩; have n0_ := Aside0.mk (Kd.R_below (by (with_reducible repeat (first | apply Kd.R_alloc | apply Kd.R_drewN | apply Kd.R_drew)); exact HO286.out) hb); have n1_ := Aside0.mk (below_step (by repeat (first | (with_reducible first | exact HB.out | apply below_alloc | apply pw_below_drewN | apply below_drew1) | exact HB.out)) hb); clear HO286; clear HB; have HO286 := n0_; have HB := n1_; clear n0_ n1_; (try clear hb); (try clear hb2); (try clear hk); (try clear hi)) | ((with_reducible refine gate_dst (N := 6) rfl ?_); (try (refine gate_guard (by rfl) ?_; dsimp only)); refine Kd.R_lit k33 _ 33 ?hg (N := 6) ?hd (xs := ([(⟨1, 5, 0, 0, 1⟩ : S33)] : List (S33))) (inner := [.int .u8 1, .int .i64 5, .int .i64 0, .int .i64 0, .int .i64 1]) (ok := fun _ => True) (okp := fun _ => True) ?hr ?hp (fun _ hk => hk) trivial (Below.refl _ _) (Nat.le_refl _) (by simp) ?_; (case hd => rfl); (case hg => rfl); (case hr => first | (go_simp; done) | (go_simp; rfl)); (case hp => exact (Reps.c5 (show Kd.M k33 _ _ _ (⟨1, 5, 0, 0, 1⟩ : S33) [.int .u8 1, .int .i64 5, .int .i64 0, .int .i64 0, .int .i64 1] from (k33_mkM _ _ _ (⟨1, 5, 0, 0, 1⟩ : S33) )) (Reps.none _ _))); intro v289 w10 ho11 hb hg_ hnew_; clear hg_ hnew_; (first | rw [← Ny288.out] at ho11 | (simp only [Int.reduceToNat] at ho11; rw [← Ny288.out] at ho11)); have n0_ := Aside0.mk (Kd.R_elder' (by (with_reducible repeat (first | apply Kd.R_alloc | apply Kd.R_drewN | apply Kd.R_drew)); exact HO286.out) (Kd.R_base ho11) hb); have n1_ := Aside0.mk (Kd.R_lower (Kd.R_new' ho11 (Kd.R_lt (by (with_reducible repeat (first | apply Kd.R_alloc | apply Kd.R_drewN | apply Kd.R_drew)); exact HO286.out))) (below_size (by repeat (first | (with_reducible first | exact HB.out | apply below_alloc | apply pw_below_drewN | apply below_drew1) | exact HB.out)))); have n2_ := Aside0.mk (below_step (by repeat (first | (with_reducible first | exact HB.out | apply below_alloc | apply pw_below_drewN | apply below_drew1) | exact HB.out)) hb); clear HO286; clear HB; have HO286 := n0_; have HO290 := n1_; have HB := n2_; clear n0_ n1_ n2_; clear hb ho11; obtain ⟨Ao12, co12, eo12⟩ := Kd.R_slice HO290.out; subst eo12) | (go_at_call 31; (with_reducible refine (quoinlaw18_is.calls k 4096 _ _ y288 true _ ?side1 ?side2 ?sideLN A3.out).mono ?_); (case sideLN => (repeat (first | exact HLN.out | (with_reducible refine LaidN.alloc ?_ _) | (with_reducible refine LaidN.drewN ?_ _) | (with_reducible refine LaidN.drew ?_) | (refine LaidN.below HLN.out ?_; repeat (first | (with_reducible first | exact HB.out | apply below_alloc | apply pw_below_drewN | apply below_drew1) | exact HB.out))))); (case side1 => repeat (first | exact (Kd.R_reads' HO290.out).2.2 | (with_reducible refine Kd.C_alloc ?_ _) | (with_reducible refine Kd.C_drewN ?_ _) | (with_reducible refine Kd.C_drew ?_))); (case side2 => exact (Kd.R_reads' HO290.out).2.1); rintro e w13 ⟨rfl, hb⟩; have n0_ := Aside0.mk (Kd.R_below (by (with_reducible repeat (first | apply Kd.R_alloc | apply Kd.R_drewN | apply Kd.R_drew)); exact HO286.out) hb); have n1_ := Aside0.mk (Kd.R_below (by (with_reducible repeat (first | apply Kd.R_alloc | apply Kd.R_drewN | apply Kd.R_drew)); exact HO290.out) hb); have n2_ := Aside0.mk (below_step (by repeat (first | (with_reducible first | exact HB.out | apply below_alloc | apply pw_below_drewN | apply below_drew1) | exact HB.out)) hb); clear HO286; clear HO290; clear HB; have HO286 := n0_; have HO290 := n1_; have HB := n2_; clear n0_ n1_ n2_; (try clear hb); (try clear hb2); (try clear hk); (try clear hi)) | ((with_reducible refine gate_dst (N := 12) rfl ?_); (try (refine gate_guard (by rfl) ?_; dsimp only)); refine Kd.R_lit k33 _ 33 ?hg (N := 12) ?hd (xs := ([(⟨1, 5, 0, 0, 1048575⟩ : S33), (⟨41, 5, 5, 0, 2047⟩ : S33)] : List (S33))) (inner := [.int .u8 1, .int .i64 5, .int .i64 0, .int .i64 0, .int .i64 1048575, .int .u8 41, .int .i64 5, .int .i64 5, .int .i64 0, .int .i64 2047]) (ok := fun _ => True) (okp := fun _ => True) ?hr ?hp (fun _ hk => hk) trivial (Below.refl _ _) (Nat.le_refl _) (by simp) ?_; (case hd => rfl); (case hg => rfl); (case hr => first | (go_simp; done) | (go_simp; rfl)); (case hp => exact (Reps.c5 (show Kd.M k33 _ _ _ (⟨1, 5, 0, 0, 1048575⟩ : S33) [.int .u8 1, .int .i64 5, .int .i64 0, .int .i64 0, .int .i64 1048575] from (k33_mkM _ _ _ (⟨1, 5, 0, 0, 1048575⟩ : S33) )) (Reps.c5 (show Kd.M k33 _ _ _ (⟨41, 5, 5, 0, 2047⟩ : S33) [.int .u8 41, .int .i64 5, .int .i64 5, .int .i64 0, .int .i64 2047] from (k33_mkM _ _ _ (⟨41, 5, 5, 0, 2047⟩ : S33) )) (Reps.none _ _)))); intro v293 w14 ho15 hb hg_ hnew_; clear hg_ hnew_; (first | rw [← Ny292.out] at ho15 | (simp only [Int.reduceToNat] at ho15; rw [← Ny292.out] at ho15)); have n0_ := Aside0.mk (Kd.R_elder' (by (with_reducible repeat (first | apply Kd.R_alloc | apply Kd.R_drewN | apply Kd.R_drew)); exact HO286.out) (Kd.R_base ho15) hb); have n1_ := Aside0.mk (Kd.R_elder' (by (with_reducible repeat (first | apply Kd.R_alloc | apply Kd.R_drewN | apply Kd.R_drew)); exact HO290.out) (Kd.R_base ho15) hb); have n2_ := Aside0.mk (Kd.R_lower (Kd.R_new' (Kd.R_new' ho15 (Kd.R_lt (by (with_reducible repeat (first | apply Kd.R_alloc | apply Kd.R_drewN | apply Kd.R_drew)); exact HO286.out))) (Kd.R_lt (by (with_reducible repeat (first | apply Kd.R_alloc | apply Kd.R_drewN | apply Kd.R_drew)); exact HO290.out))) (below_size (by repeat (first | (with_reducible first | exact HB.out | apply below_alloc | apply pw_below_drewN | apply below_drew1) | exact HB.out)))); have n3_ := Aside0.mk (below_step (by repeat (first | (with_reducible first | exact HB.out | apply below_alloc | apply pw_below_drewN | apply below_drew1) | exact HB.out)) hb); clear HO286; clear HO290; clear HB; have HO286 := n0_; have HO290 := n1_; have HO294 := n2_; have HB := n3_; clear n0_ n1_ n2_ n3_; clear hb ho15; obtain ⟨Ao16, co16, eo16⟩ := Kd.R_slice HO294.out; subst eo16) | (go_at_call 31; (with_reducible refine (quoinlaw18_is.calls k (-2049) _ _ y292 t295 _ ?side1 ?side2 ?sideLN A5.out).mono ?_); (case sideLN => (repeat (first | exact HLN.out | (with_reducible refine LaidN.alloc ?_ _) | (with_reducible refine LaidN.drewN ?_ _) | (with_reducible refine LaidN.drew ?_) | (refine LaidN.below HLN.out ?_; repeat (first | (with_reducible first | exact HB.out | apply below_alloc | apply pw_below_drewN | apply below_drew1) | exact HB.out))))); (case side1 => repeat (first | exact (Kd.R_reads' HO294.out).2.2 | (with_reducible refine Kd.C_alloc ?_ _) | (with_reducible refine Kd.C_drewN ?_ _) | (with_reducible refine Kd.C_drew ?_))); (case side2 => exact (Kd.R_reads' HO294.out).2.1); rintro e w17 ⟨rfl, hb⟩; have n0_ := Aside0.mk (Kd.R_below (by (with_reducible repeat (first | apply Kd.R_alloc | apply Kd.R_drewN | apply Kd.R_drew)); exact HO286.out) hb); have n1_ := Aside0.mk (Kd.R_below (by (with_reducible repeat (first | apply Kd.R_alloc | apply Kd.R_drewN | apply Kd.R_drew)); exact HO290.out) hb); have n2_ := Aside0.mk (Kd.R_below (by (with_reducible repeat (first | apply Kd.R_alloc | apply Kd.R_drewN | apply Kd.R_drew)); exact HO294.out) hb); have n3_ := Aside0.mk (below_step (by repeat (first | (with_reducible first | exact HB.out | apply below_alloc | apply pw_below_drewN | apply below_drew1) | exact HB.out)) hb); clear HO286; clear HO290; clear HO294; clear HB; have HO286 := n0_; have HO290 := n1_; have HO294 := n2_; have HB := n3_; clear n0_ n1_ n2_ n3_; (try clear hb); (try clear hb2); (try clear hk); (try clear hi)))
      go_ret
      exact ⟨by first | rfl | (simp [errW_none, errW_some] <;> rfl) | (simp [*, errW_none, errW_some] <;> rfl), by repeat (first | (with_reducible first | exact HB.out | apply below_alloc | apply pw_below_drewN | apply below_drew1) | exact HB.out)⟩
    · replace c4 := Bool.eq_false_iff.mpr c4
      subst c4
      have H1 : (none) = some r := by rw [if_neg (show ¬ (false = true) by decide)] at H; exact H
      clear H
      have H := H1
      clear H1
      exact absurd H (by simp)
  · replace c2 := Bool.eq_false_iff.mpr c2
    subst c2
    have H1 : (none) = some r := by rw [if_neg (show ¬ (false = true) by decide)] at H; exact H
    clear H
    have H := H1
    clear H1
    exact absurd H (by simp)

/-! ### quoinlaw18_done: function 42 -/
mutual
def quoinlaw18_done.j0 : Nat → Int → Int → Int → Int → Int → Int → Int → Option (Int × Bool)
  | 0, _, _, _, _, _, _, _ => none
  | k + 1, x1, x8, x532000, x532001, x532002, x532003, x532004 => if x532001 = x1 then (if x532002 = 0 then (quoinlaw18_done.j1 k x8 (x532003 != 0) x532000 x532001 x532002 x532003 x532004) else (if x532002 = x1 then (quoinlaw18_done.j1 k x8 (x532003 != 0) x532000 x532001 x532002 x532003 x532004) else (quoinlaw18_done.j1 k x8 true x532000 x532001 x532002 x532003 x532004))) else (quoinlaw18_done.j1 k x8 true x532000 x532001 x532002 x532003 x532004)
def quoinlaw18_done.j1 : Nat → Int → Bool → Int → Int → Int → Int → Int → Option (Int × Bool)
  | 0, _, _, _, _, _, _, _ => none
  | k + 1, x8, x36, x532000, x532001, x532002, x532003, x532004 => if x36 = true then (some (0, false)) else ((insn_Name.f x532000).bind fun bt532 => (if bt532.1.toList = ([97, 100, 100, 105] : List UInt8) then (some (IntKind.u64.wrap (x8 + (IntKind.u64.wrap (x532004))), (bt532.2 == 0))) else (if bt532.1.toList = ([97, 100, 100, 105, 119] : List UInt8) then (some (IntKind.u64.wrap (wrap64 (wrap32 ((IntKind.u64.wrap (x8 + (IntKind.u64.wrap (x532004)))) % 4294967296))), (bt532.2 == 0))) else (if bt532.1.toList = ([108, 117, 105] : List UInt8) then (if bt532.2 = 0 then (some (IntKind.u64.wrap (wrap64 (wrap32 ((((x532004) % 4294967296) * 4096) % 4294967296))), (x532002 == 0))) else (some (IntKind.u64.wrap (wrap64 (wrap32 ((((x532004) % 4294967296) * 4096) % 4294967296))), false))) else (if bt532.1.toList = ([115, 108, 108, 105] : List UInt8) then (if 0 ≤ x532004 then (some (shl .u64 x8 x532004, (bt532.2 == 0))) else (none)) else (some (0, false)))))))
end
def quoinlaw18_done.f (k : Nat) (a0_0 : Int) (a0_1 : Int) (a0_2 : Int) (a0_3 : Int) (a0_4 : Int) (a1 : Int) (a2 : Int) : Option (Int × Bool) := if a0_2 = a1 then (quoinlaw18_done.j0 k a1 a2 a0_0 a0_1 a0_2 a0_3 a0_4) else (quoinlaw18_done.j0 k a1 0 a0_0 a0_1 a0_2 a0_3 a0_4)
theorem quoinlaw18_done.mono_l : ∀ k, (∀ y0 y1 y2 y3 y4 y5 y6, LeO (quoinlaw18_done.j0 k y0 y1 y2 y3 y4 y5 y6) (quoinlaw18_done.j0 (k + 1) y0 y1 y2 y3 y4 y5 y6)) ∧ (∀ y0 y1 y2 y3 y4 y5 y6, LeO (quoinlaw18_done.j1 k y0 y1 y2 y3 y4 y5 y6) (quoinlaw18_done.j1 (k + 1) y0 y1 y2 y3 y4 y5 y6))
  | 0 => ⟨fun _ _ _ _ _ _ _ r h => by simp [quoinlaw18_done.j0] at h, fun _ _ _ _ _ _ _ r h => by simp [quoinlaw18_done.j1] at h⟩
  | k + 1 => by
    obtain ⟨ih0, ih1⟩ := quoinlaw18_done.mono_l k
    refine ⟨?_, ?_⟩
    · intro y0 y1 y2 y3 y4 y5 y6
      unfold quoinlaw18_done.j0
      repeat' first
      | (with_reducible exact ih0 _ _ _ _ _ _ _)
      | (with_reducible exact ih1 _ _ _ _ _ _ _)
      | (with_reducible exact LeO.refl _)
      | (with_reducible exact LeO.none _)
      | (with_reducible refine LeO.ite ?_ ?_)
      | (with_reducible refine LeO.bind ?_ (fun _ => ?_))
      | exact ih0 _ _ _ _ _ _ _
      | exact ih1 _ _ _ _ _ _ _
      | exact LeO.none _
      | refine LeO.ite ?_ ?_
      | refine LeO.bind ?_ (fun _ => ?_)
    · intro y0 y1 y2 y3 y4 y5 y6
      unfold quoinlaw18_done.j1
      repeat' first
      | (with_reducible exact ih0 _ _ _ _ _ _ _)
      | (with_reducible exact ih1 _ _ _ _ _ _ _)
      | (with_reducible exact LeO.refl _)
      | (with_reducible exact LeO.none _)
      | (with_reducible refine LeO.ite ?_ ?_)
      | (with_reducible refine LeO.bind ?_ (fun _ => ?_))
      | exact ih0 _ _ _ _ _ _ _
      | exact ih1 _ _ _ _ _ _ _
      | exact LeO.none _
      | refine LeO.ite ?_ ?_
      | refine LeO.bind ?_ (fun _ => ?_)
theorem quoinlaw18_done.mono : ∀ a0 a1 a2 a3 a4 a5 a6 k, LeO (quoinlaw18_done.f k a0 a1 a2 a3 a4 a5 a6) (quoinlaw18_done.f (k + 1) a0 a1 a2 a3 a4 a5 a6) := by
  intro a0 a1 a2 a3 a4 a5 a6 k
  obtain ⟨ih0, ih1⟩ := quoinlaw18_done.mono_l k
  unfold quoinlaw18_done.f
  repeat' first
      | (with_reducible exact ih0 _ _ _ _ _ _ _)
      | (with_reducible exact ih1 _ _ _ _ _ _ _)
      | (with_reducible exact LeO.refl _)
      | (with_reducible exact LeO.none _)
      | (with_reducible refine LeO.ite ?_ ?_)
      | (with_reducible refine LeO.bind ?_ (fun _ => ?_))
      | exact ih0 _ _ _ _ _ _ _
      | exact ih1 _ _ _ _ _ _ _
      | exact LeO.none _
      | refine LeO.ite ?_ ?_
      | refine LeO.bind ?_ (fun _ => ?_)
set_option maxHeartbeats 8000000 in
set_option maxRecDepth 100000 in
theorem quoinlaw18_done.calls (k : Nat) (a0_0 : Int) (a0_1 : Int) (a0_2 : Int) (a0_3 : Int) (a0_4 : Int) (a1 : Int) (a2 : Int) (r1 : Int) (r2 : Bool) (w : World) (hN : LaidN w) (h : quoinlaw18_done.f k a0_0 a0_1 a0_2 a0_3 a0_4 a1 a2 = some (r1, r2)) :
    Calls Tryd.prog 42 #[.agg #[.int .u8 a0_0, .int .i64 a0_1, .int .i64 a0_2, .int .i64 a0_3, .int .i64 a0_4], .int .i64 a1, .int .u64 a2] w fun e w' => e = .returned (.tuple #[.int .u64 r1, .bool r2]) ∧ Below w.heap.size w w' := by
  have HLN := Aside0.mk hN
  clear hN
  have hu33 := Tryd.underlying33
  have HB := Aside0.mk (Below.refl w.heap.size w)
  have H : (if a0_2 = a1 then (quoinlaw18_done.j0 k a1 a2 a0_0 a0_1 a0_2 a0_3 a0_4) else (quoinlaw18_done.j0 k a1 0 a0_0 a0_1 a0_2 a0_3 a0_4)) = some (r1, r2) := h
  clear h
  have HC4 := Aside0.mk H
  clear H
  go_enter Tryd.func42, Tryd.ntmps42
  go_upto_if 15 with (first | ((with_reducible refine gate_dst (N := 3) rfl ?_); refine box_event ?hg (N := 3) ?hd (cs := #[.int .u8 a0_0, .int .i64 a0_1, .int .i64 a0_2, .int .i64 a0_3, .int .i64 a0_4]) (t := 33) ?hr ?_; (case hd => rfl); (case hg => rfl); (case hr => first | (go_simp; done) | (go_simp; rfl)); intro gb531 hg w5 hbox hb; have n0_ := Aside0.mk (below_step (by repeat (first | (with_reducible first | exact HB.out | apply below_alloc | apply pw_below_drewN | apply below_drew1) | exact HB.out)) hb); have n1_ := Aside0.mk (hbox); have n2_ := Aside0.mk ((by rw [hg]; exact (below_size (by repeat (first | (with_reducible first | exact HB.out | apply below_alloc | apply pw_below_drewN | apply below_drew1) | exact HB.out))) : w.heap.size ≤ gb531)); have n3_ := Aside0.mk ((by rw [hg]; exact (below_size (by repeat (first | (with_reducible first | exact HB.out | apply below_alloc | apply pw_below_drewN | apply below_drew1) | exact HB.out))) : w.heap.size ≤ gb531)); clear HB; have HB := n0_; have BK531 := n1_; have GW531 := n2_; have GE531 := n3_; clear n0_ n1_ n2_ n3_; clear hb hbox hg; have hcz6_0 : w5.cell? ⟨gb531, 0, none⟩ = some (.int .u8 a0_0) := (blk_cell BK531.out 0).trans rfl; have hcz6_1 : w5.cell? ⟨gb531, 1, none⟩ = some (.int .i64 a0_1) := (blk_cell BK531.out 1).trans rfl; have hcz6_2 : w5.cell? ⟨gb531, 2, none⟩ = some (.int .i64 a0_2) := (blk_cell BK531.out 2).trans rfl; have hcz6_3 : w5.cell? ⟨gb531, 3, none⟩ = some (.int .i64 a0_3) := (blk_cell BK531.out 3).trans rfl; have hcz6_4 : w5.cell? ⟨gb531, 4, none⟩ = some (.int .i64 a0_4) := (blk_cell BK531.out 4).trans rfl; have hfz6_0 := blk_frozen BK531.out 0; have hfz6_1 := blk_frozen BK531.out 1; have hfz6_2 := blk_frozen BK531.out 2; have hfz6_3 := blk_frozen BK531.out 3; have hfz6_4 := blk_frozen BK531.out 4))
  repeat (go_quiet (first | ((with_reducible refine gate_dst (N := 3) rfl ?_); refine box_event ?hg (N := 3) ?hd (cs := #[.int .u8 a0_0, .int .i64 a0_1, .int .i64 a0_2, .int .i64 a0_3, .int .i64 a0_4]) (t := 33) ?hr ?_; (case hd => rfl); (case hg => rfl); (case hr => first | (go_simp; done) | (go_simp; rfl)); intro gb531 hg w5 hbox hb; have n0_ := Aside0.mk (below_step (by repeat (first | (with_reducible first | exact HB.out | apply below_alloc | apply pw_below_drewN | apply below_drew1) | exact HB.out)) hb); have n1_ := Aside0.mk (hbox); have n2_ := Aside0.mk ((by rw [hg]; exact (below_size (by repeat (first | (with_reducible first | exact HB.out | apply below_alloc | apply pw_below_drewN | apply below_drew1) | exact HB.out))) : w.heap.size ≤ gb531)); have n3_ := Aside0.mk ((by rw [hg]; exact (below_size (by repeat (first | (with_reducible first | exact HB.out | apply below_alloc | apply pw_below_drewN | apply below_drew1) | exact HB.out))) : w.heap.size ≤ gb531)); clear HB; have HB := n0_; have BK531 := n1_; have GW531 := n2_; have GE531 := n3_; clear n0_ n1_ n2_ n3_; clear hb hbox hg; have hcz6_0 : w5.cell? ⟨gb531, 0, none⟩ = some (.int .u8 a0_0) := (blk_cell BK531.out 0).trans rfl; have hcz6_1 : w5.cell? ⟨gb531, 1, none⟩ = some (.int .i64 a0_1) := (blk_cell BK531.out 1).trans rfl; have hcz6_2 : w5.cell? ⟨gb531, 2, none⟩ = some (.int .i64 a0_2) := (blk_cell BK531.out 2).trans rfl; have hcz6_3 : w5.cell? ⟨gb531, 3, none⟩ = some (.int .i64 a0_3) := (blk_cell BK531.out 3).trans rfl; have hcz6_4 : w5.cell? ⟨gb531, 4, none⟩ = some (.int .i64 a0_4) := (blk_cell BK531.out 4).trans rfl; have hfz6_0 := blk_frozen BK531.out 0; have hfz6_1 := blk_frozen BK531.out 1; have hfz6_2 := blk_frozen BK531.out 2; have hfz6_3 := blk_frozen BK531.out 3; have hfz6_4 := blk_frozen BK531.out 4)); go_upto_if 15 with (first | ((with_reducible refine gate_dst (N := 3) rfl ?_); refine box_event ?hg (N := 3) ?hd (cs := #[.int .u8 a0_0, .int .i64 a0_1, .int .i64 a0_2, .int .i64 a0_3, .int .i64 a0_4]) (t := 33) ?hr ?_; (case hd => rfl); (case hg => rfl); (case hr => first | (go_simp; done) | (go_simp; rfl)); intro gb531 hg w5 hbox hb; have n0_ := Aside0.mk (below_step (by repeat (first | (with_reducible first | exact HB.out | apply below_alloc | apply pw_below_drewN | apply below_drew1) | exact HB.out)) hb); have n1_ := Aside0.mk (hbox); have n2_ := Aside0.mk ((by rw [hg]; exact (below_size (by repeat (first | (with_reducible first | exact HB.out | apply below_alloc | apply pw_below_drewN | apply below_drew1) | exact HB.out))) : w.heap.size ≤ gb531)); have n3_ := Aside0.mk ((by rw [hg]; exact (below_size (by repeat (first | (with_reducible first | exact HB.out | apply below_alloc | apply pw_below_drewN | apply below_drew1) | exact HB.out))) : w.heap.size ≤ gb531)); clear HB; have HB := n0_; have BK531 := n1_; have GW531 := n2_; have GE531 := n3_; clear n0_ n1_ n2_ n3_; clear hb hbox hg; have hcz6_0 : w5.cell? ⟨gb531, 0, none⟩ = some (.int .u8 a0_0) := (blk_cell BK531.out 0).trans rfl; have hcz6_1 : w5.cell? ⟨gb531, 1, none⟩ = some (.int .i64 a0_1) := (blk_cell BK531.out 1).trans rfl; have hcz6_2 : w5.cell? ⟨gb531, 2, none⟩ = some (.int .i64 a0_2) := (blk_cell BK531.out 2).trans rfl; have hcz6_3 : w5.cell? ⟨gb531, 3, none⟩ = some (.int .i64 a0_3) := (blk_cell BK531.out 3).trans rfl; have hcz6_4 : w5.cell? ⟨gb531, 4, none⟩ = some (.int .i64 a0_4) := (blk_cell BK531.out 4).trans rfl; have hfz6_0 := blk_frozen BK531.out 0; have hfz6_1 := blk_frozen BK531.out 1; have hfz6_2 := blk_frozen BK531.out 2; have hfz6_3 := blk_frozen BK531.out 3; have hfz6_4 := blk_frozen BK531.out 4)))
  (try simp only [Act.put, List.setIfInBounds_toArray, List.set_cons_zero, List.set_cons_succ])
  go_cut [8] (fun v8 wc => ∃ (kq : Nat) (x8_3 : Int), v8 = .int .u64 x8_3 ∧ Aside0 (quoinlaw18_done.j0 kq a1 x8_3 a0_0 a0_1 a0_2 a0_3 a0_4 = some (r1, r2)) ∧ Aside0 (kq ≤ k) ∧ Aside0 (wc.heap[gb531]? = some (.cells #[.int .u8 a0_0, .int .i64 a0_1, .int .i64 a0_2, .int .i64 a0_3, .int .i64 a0_4] 33 (0, 0))) ∧ Aside0 (Below w.heap.size w wc))
  case first =>
    have H := HC4.out
    clear HC4
    by_cases c7 : a0_2 = a1
    · rw [if_pos c7] at H
      have c7b0 : (a0_2 == a1) = true := beq_iff_eq.mpr c7
      have c7b1 : (a0_2 != a1) = false := bne_eq_false_iff_eq.mpr c7
      clear c7
      (first | rw [c7b0] | (simp only [i64_w, i32_w]; rw [c7b0]) | rw [c7b1] | skip)
      have H' := Aside0.mk H
      clear H
      go_wp2
      repeat (go_quiet (fail); try go_wp2)
      go_meet
      case rel => exact ⟨_, (a2), (by first | rfl | (simp; done) | (simp only [i64_w, i32_w]; first | done | rfl | (simp; done)) | (simp [*]; done)), H', ⟨by first | omega | exact Nat.le_refl _⟩, ⟨by (with_reducible repeat (first | refine blk_drewN ?_ _ | refine blk_drew ?_ | refine blk_alloc ?_ _)); exact BK531.out⟩, ⟨by repeat (first | (with_reducible first | exact HB.out | apply below_alloc | apply pw_below_drewN | apply below_drew1 | refine below_set ?_ GE531.out) | exact HB.out)⟩⟩
    · rw [if_neg c7] at H
      have c7b0 : (a0_2 == a1) = false := beq_eq_false_iff_ne.mpr c7
      have c7b1 : (a0_2 != a1) = true := bne_iff_ne.mpr c7
      (first | rw [c7b0] | (simp only [i64_w, i32_w]; rw [c7b0]) | rw [c7b1] | skip)
      have H' := Aside0.mk H
      clear H
      go_wp2
      repeat (go_quiet (fail); try go_wp2)
      go_meet
      case rel => exact ⟨_, (0), (by first | rfl | (simp; done) | (simp only [i64_w, i32_w]; first | done | rfl | (simp; done)) | (simp [*]; done)), H', ⟨by first | omega | exact Nat.le_refl _⟩, ⟨by (with_reducible repeat (first | refine blk_drewN ?_ _ | refine blk_drew ?_ | refine blk_alloc ?_ _)); exact BK531.out⟩, ⟨by repeat (first | (with_reducible first | exact HB.out | apply below_alloc | apply pw_below_drewN | apply below_drew1 | refine below_set ?_ GE531.out) | exact HB.out)⟩⟩
  case rest =>
    clear HC4
    try clear p2
    try clear c4
    try clear c7
    try clear c7b0
    try clear c7b1
    try clear hcz6_0
    try clear hcz6_1
    try clear hcz6_2
    try clear hcz6_3
    try clear hcz6_4
    try clear hfz6_0
    try clear hfz6_1
    try clear hfz6_2
    try clear hfz6_3
    try clear hfz6_4
    obtain ⟨kq, x8_3, rfl, HA, HJ3, BK531, HB⟩ := hcut
    cases kq with
    | zero => exact absurd HA.out (by simp [quoinlaw18_done.j0])
    | succ kj3 =>
      have H := HA.out
      clear HA
      simp only [quoinlaw18_done.j0] at H
      have HC8 := Aside0.mk H
      clear H
      go_upto_region 4 with (fail)
      repeat (go_quiet (fail); go_upto_region 4 with (fail))
      go_cut [36] (fun v36 wc => ∃ (kq : Nat) (x36_7 : Bool), v36 = .bool x36_7 ∧ Aside0 (quoinlaw18_done.j1 kq x8_3 x36_7 a0_0 a0_1 a0_2 a0_3 a0_4 = some (r1, r2)) ∧ Aside0 (kq ≤ kj3) ∧ Aside0 (wc.heap[gb531]? = some (.cells #[.int .u8 a0_0, .int .i64 a0_1, .int .i64 a0_2, .int .i64 a0_3, .int .i64 a0_4] 33 (0, 0))) ∧ Aside0 (Below w.heap.size w wc))
      case first =>
        have H := HC8.out
        clear HC8
        by_cases c9 : a0_1 = a1
        · rw [if_pos c9] at H
          have c9b0 : (a0_1 == a1) = true := beq_iff_eq.mpr c9
          have c9b1 : (a0_1 != a1) = false := bne_eq_false_iff_eq.mpr c9
          clear c9
          (first | rw [c9b0] | (simp only [i64_w, i32_w]; rw [c9b0]) | rw [c9b1] | skip)
          by_cases c10 : a0_2 = 0
          · rw [if_pos c10] at H
            have c10b0 : (a0_2 == 0) = true := beq_iff_eq.mpr c10
            have c10b1 : (a0_2 != 0) = false := bne_eq_false_iff_eq.mpr c10
            clear c10
            have H' := Aside0.mk H
            clear H
            have hcz11_0 : wc.cell? ⟨gb531, 0, none⟩ = some (.int .u8 a0_0) := (blk_cell BK531.out 0).trans rfl
            have hcz11_1 : wc.cell? ⟨gb531, 1, none⟩ = some (.int .i64 a0_1) := (blk_cell BK531.out 1).trans rfl
            have hcz11_2 : wc.cell? ⟨gb531, 2, none⟩ = some (.int .i64 a0_2) := (blk_cell BK531.out 2).trans rfl
            have hcz11_3 : wc.cell? ⟨gb531, 3, none⟩ = some (.int .i64 a0_3) := (blk_cell BK531.out 3).trans rfl
            have hcz11_4 : wc.cell? ⟨gb531, 4, none⟩ = some (.int .i64 a0_4) := (blk_cell BK531.out 4).trans rfl
            have hfz11_0 := blk_frozen BK531.out 0
            have hfz11_1 := blk_frozen BK531.out 1
            have hfz11_2 := blk_frozen BK531.out 2
            have hfz11_3 := blk_frozen BK531.out 3
            have hfz11_4 := blk_frozen BK531.out 4
            go_wp2
            repeat (go_quiet (fail); try go_wp2)
            go_meet
            case rel => exact ⟨_, ((a0_3 != 0)), (by first | rfl | (simp; done) | (simp only [i64_w, i32_w]; first | done | rfl | (simp; done)) | (simp [*]; done)), H', ⟨by have := HJ3.out; first | omega | exact Nat.le_refl _⟩, ⟨by (with_reducible repeat (first | refine blk_drewN ?_ _ | refine blk_drew ?_ | refine blk_alloc ?_ _)); exact BK531.out⟩, ⟨by repeat (first | (with_reducible first | exact HB.out | apply below_alloc | apply pw_below_drewN | apply below_drew1 | refine below_set ?_ GE531.out) | exact HB.out)⟩⟩
          · rw [if_neg c10] at H
            have c10b0 : (a0_2 == 0) = false := beq_eq_false_iff_ne.mpr c10
            have c10b1 : (a0_2 != 0) = true := bne_iff_ne.mpr c10
            by_cases c12 : a0_2 = a1
            · rw [if_pos c12] at H
              have c12b0 : (a0_2 == a1) = true := beq_iff_eq.mpr c12
              have c12b1 : (a0_2 != a1) = false := bne_eq_false_iff_eq.mpr c12
              clear c12
              have H' := Aside0.mk H
              clear H
              have hcz13_0 : wc.cell? ⟨gb531, 0, none⟩ = some (.int .u8 a0_0) := (blk_cell BK531.out 0).trans rfl
              have hcz13_1 : wc.cell? ⟨gb531, 1, none⟩ = some (.int .i64 a0_1) := (blk_cell BK531.out 1).trans rfl
              have hcz13_2 : wc.cell? ⟨gb531, 2, none⟩ = some (.int .i64 a0_2) := (blk_cell BK531.out 2).trans rfl
              have hcz13_3 : wc.cell? ⟨gb531, 3, none⟩ = some (.int .i64 a0_3) := (blk_cell BK531.out 3).trans rfl
              have hcz13_4 : wc.cell? ⟨gb531, 4, none⟩ = some (.int .i64 a0_4) := (blk_cell BK531.out 4).trans rfl
              have hfz13_0 := blk_frozen BK531.out 0
              have hfz13_1 := blk_frozen BK531.out 1
              have hfz13_2 := blk_frozen BK531.out 2
              have hfz13_3 := blk_frozen BK531.out 3
              have hfz13_4 := blk_frozen BK531.out 4
              go_wp2
              repeat (go_quiet (fail); try go_wp2)
              go_meet
              case rel => exact ⟨_, ((a0_3 != 0)), (by first | rfl | (simp; done) | (simp only [i64_w, i32_w]; first | done | rfl | (simp; done)) | (simp [*]; done)), H', ⟨by have := HJ3.out; first | omega | exact Nat.le_refl _⟩, ⟨by (with_reducible repeat (first | refine blk_drewN ?_ _ | refine blk_drew ?_ | refine blk_alloc ?_ _)); exact BK531.out⟩, ⟨by repeat (first | (with_reducible first | exact HB.out | apply below_alloc | apply pw_below_drewN | apply below_drew1 | refine below_set ?_ GE531.out) | exact HB.out)⟩⟩
            · rw [if_neg c12] at H
              have c12b0 : (a0_2 == a1) = false := beq_eq_false_iff_ne.mpr c12
              have c12b1 : (a0_2 != a1) = true := bne_iff_ne.mpr c12
              have H' := Aside0.mk H
              clear H
              have hcz14_0 : wc.cell? ⟨gb531, 0, none⟩ = some (.int .u8 a0_0) := (blk_cell BK531.out 0).trans rfl
              have hcz14_1 : wc.cell? ⟨gb531, 1, none⟩ = some (.int .i64 a0_1) := (blk_cell BK531.out 1).trans rfl
              have hcz14_2 : wc.cell? ⟨gb531, 2, none⟩ = some (.int .i64 a0_2) := (blk_cell BK531.out 2).trans rfl
              have hcz14_3 : wc.cell? ⟨gb531, 3, none⟩ = some (.int .i64 a0_3) := (blk_cell BK531.out 3).trans rfl
              have hcz14_4 : wc.cell? ⟨gb531, 4, none⟩ = some (.int .i64 a0_4) := (blk_cell BK531.out 4).trans rfl
              have hfz14_0 := blk_frozen BK531.out 0
              have hfz14_1 := blk_frozen BK531.out 1
              have hfz14_2 := blk_frozen BK531.out 2
              have hfz14_3 := blk_frozen BK531.out 3
              have hfz14_4 := blk_frozen BK531.out 4
              go_wp2
              repeat (go_quiet (fail); try go_wp2)
              go_meet
              case rel => exact ⟨_, (true), (by first | rfl | (simp; done) | (simp only [i64_w, i32_w]; first | done | rfl | (simp; done)) | (simp [*]; done)), H', ⟨by have := HJ3.out; first | omega | exact Nat.le_refl _⟩, ⟨by (with_reducible repeat (first | refine blk_drewN ?_ _ | refine blk_drew ?_ | refine blk_alloc ?_ _)); exact BK531.out⟩, ⟨by repeat (first | (with_reducible first | exact HB.out | apply below_alloc | apply pw_below_drewN | apply below_drew1 | refine below_set ?_ GE531.out) | exact HB.out)⟩⟩
        · rw [if_neg c9] at H
          have c9b0 : (a0_1 == a1) = false := beq_eq_false_iff_ne.mpr c9
          have c9b1 : (a0_1 != a1) = true := bne_iff_ne.mpr c9
          (first | rw [c9b0] | (simp only [i64_w, i32_w]; rw [c9b0]) | rw [c9b1] | skip)
          have H' := Aside0.mk H
          clear H
          have hcz15_0 : wc.cell? ⟨gb531, 0, none⟩ = some (.int .u8 a0_0) := (blk_cell BK531.out 0).trans rfl
          have hcz15_1 : wc.cell? ⟨gb531, 1, none⟩ = some (.int .i64 a0_1) := (blk_cell BK531.out 1).trans rfl
          have hcz15_2 : wc.cell? ⟨gb531, 2, none⟩ = some (.int .i64 a0_2) := (blk_cell BK531.out 2).trans rfl
          have hcz15_3 : wc.cell? ⟨gb531, 3, none⟩ = some (.int .i64 a0_3) := (blk_cell BK531.out 3).trans rfl
          have hcz15_4 : wc.cell? ⟨gb531, 4, none⟩ = some (.int .i64 a0_4) := (blk_cell BK531.out 4).trans rfl
          have hfz15_0 := blk_frozen BK531.out 0
          have hfz15_1 := blk_frozen BK531.out 1
          have hfz15_2 := blk_frozen BK531.out 2
          have hfz15_3 := blk_frozen BK531.out 3
          have hfz15_4 := blk_frozen BK531.out 4
          go_wp2
          repeat (go_quiet (fail); try go_wp2)
          go_meet
          case rel => exact ⟨_, (true), (by first | rfl | (simp; done) | (simp only [i64_w, i32_w]; first | done | rfl | (simp; done)) | (simp [*]; done)), H', ⟨by have := HJ3.out; first | omega | exact Nat.le_refl _⟩, ⟨by (with_reducible repeat (first | refine blk_drewN ?_ _ | refine blk_drew ?_ | refine blk_alloc ?_ _)); exact BK531.out⟩, ⟨by repeat (first | (with_reducible first | exact HB.out | apply below_alloc | apply pw_below_drewN | apply below_drew1 | refine below_set ?_ GE531.out) | exact HB.out)⟩⟩
      case rest =>
        clear HC8
        try clear c1
        try clear p2
        try clear c4
        try clear c7
        try clear c7b0
        try clear c7b1
        try clear c9
        try clear c9b0
        try clear c9b1
        try clear c10
        try clear c10b0
        try clear c10b1
        try clear c12
        try clear c12b0
        try clear c12b1
        try clear hcz11_0
        try clear hcz11_1
        try clear hcz11_2
        try clear hcz11_3
        try clear hcz11_4
        try clear hcz13_0
        try clear hcz13_1
        try clear hcz13_2
        try clear hcz13_3
        try clear hcz13_4
        try clear hcz14_0
        try clear hcz14_1
        try clear hcz14_2
        try clear hcz14_3
        try clear hcz14_4
        try clear hcz15_0
        try clear hcz15_1
        try clear hcz15_2
        try clear hcz15_3
        try clear hcz15_4
        try clear hcz6_0
        try clear hcz6_1
        try clear hcz6_2
        try clear hcz6_3
        try clear hcz6_4
        try clear hfz11_0
        try clear hfz11_1
        try clear hfz11_2
        try clear hfz11_3
        try clear hfz11_4
        try clear hfz13_0
        try clear hfz13_1
        try clear hfz13_2
        try clear hfz13_3
        try clear hfz13_4
        try clear hfz14_0
        try clear hfz14_1
        try clear hfz14_2
        try clear hfz14_3
        try clear hfz14_4
        try clear hfz15_0
        try clear hfz15_1
        try clear hfz15_2
        try clear hfz15_3
        try clear hfz15_4
        try clear hfz6_0
        try clear hfz6_1
        try clear hfz6_2
        try clear hfz6_3
        try clear hfz6_4
        try clear p2
        obtain ⟨kq, x36_7, rfl, HA, HJ7, BK531, HB⟩ := hcut
        cases kq with
        | zero => exact absurd HA.out (by simp [quoinlaw18_done.j1])
        | succ kj7 =>
          have H := HA.out
          clear HA
          simp only [quoinlaw18_done.j1] at H
          by_cases c16 : x36_7 = true
          · subst c16
            have H1 : (some (0, false)) = some (r1, r2) := by rw [if_pos rfl] at H; exact H
            clear H
            have H := H1
            clear H1
            simp only [Option.some.injEq, Prod.mk.injEq] at H
            obtain ⟨rfl, rfl⟩ := H
            go_wp2
            repeat (go_quiet (fail); try go_wp2)
            go_ret2
            exact ⟨by first | rfl | (simp [errW_none, errW_some] <;> rfl) | (simp [*, errW_none, errW_some] <;> rfl), by repeat (first | (with_reducible first | exact HB.out | apply below_alloc | apply pw_below_drewN | apply below_drew1 | refine below_set ?_ GE531.out) | exact HB.out)⟩
          · replace c16 := Bool.eq_false_iff.mpr c16
            subst c16
            have H1 : ((insn_Name.f a0_0).bind fun bt532 => (if bt532.1.toList = ([97, 100, 100, 105] : List UInt8) then (some (IntKind.u64.wrap (x8_3 + (IntKind.u64.wrap (a0_4))), (bt532.2 == 0))) else (if bt532.1.toList = ([97, 100, 100, 105, 119] : List UInt8) then (some (IntKind.u64.wrap (wrap64 (wrap32 ((IntKind.u64.wrap (x8_3 + (IntKind.u64.wrap (a0_4)))) % 4294967296))), (bt532.2 == 0))) else (if bt532.1.toList = ([108, 117, 105] : List UInt8) then (if bt532.2 = 0 then (some (IntKind.u64.wrap (wrap64 (wrap32 ((((a0_4) % 4294967296) * 4096) % 4294967296))), (a0_2 == 0))) else (some (IntKind.u64.wrap (wrap64 (wrap32 ((((a0_4) % 4294967296) * 4096) % 4294967296))), false))) else (if bt532.1.toList = ([115, 108, 108, 105] : List UInt8) then (if 0 ≤ a0_4 then (some (shl .u64 x8_3 a0_4, (bt532.2 == 0))) else (none)) else (some (0, false))))))) = some (r1, r2) := by rw [if_neg (show ¬ (false = true) by decide)] at H; exact H
            clear H
            have H := H1
            clear H1
            replace H := Option.bind_eq_some_iff.mp H
            obtain ⟨⟨t532, t533⟩, A170, H⟩ := H
            replace H : (if t532.toList = ([97, 100, 100, 105] : List UInt8) then (some (IntKind.u64.wrap (x8_3 + (IntKind.u64.wrap (a0_4))), (t533 == 0))) else (if t532.toList = ([97, 100, 100, 105, 119] : List UInt8) then (some (IntKind.u64.wrap (wrap64 (wrap32 ((IntKind.u64.wrap (x8_3 + (IntKind.u64.wrap (a0_4)))) % 4294967296))), (t533 == 0))) else (if t532.toList = ([108, 117, 105] : List UInt8) then (if t533 = 0 then (some (IntKind.u64.wrap (wrap64 (wrap32 ((((a0_4) % 4294967296) * 4096) % 4294967296))), (a0_2 == 0))) else (some (IntKind.u64.wrap (wrap64 (wrap32 ((((a0_4) % 4294967296) * 4096) % 4294967296))), false))) else (if t532.toList = ([115, 108, 108, 105] : List UInt8) then (if 0 ≤ a0_4 then (some (shl .u64 x8_3 a0_4, (t533 == 0))) else (none)) else (some (0, false)))))) = some (r1, r2) := H
            have A17 := Aside0.mk A170
            clear A170
            by_cases c18 : t532.toList = ([97, 100, 100, 105] : List UInt8)
            · rw [if_pos c18] at H
              have c18b0 : (t532.toList == ([97, 100, 100, 105] : List UInt8)) = true := beq_iff_eq.mpr c18
              have c18b1 : (t532.toList != ([97, 100, 100, 105] : List UInt8)) = false := bne_eq_false_iff_eq.mpr c18
              clear c18
              simp only [Option.some.injEq, Prod.mk.injEq] at H
              obtain ⟨rfl, rfl⟩ := H
              have hcz19_0 : wc.cell? ⟨gb531, 0, none⟩ = some (.int .u8 a0_0) := (blk_cell BK531.out 0).trans rfl
              have hcz19_1 : wc.cell? ⟨gb531, 1, none⟩ = some (.int .i64 a0_1) := (blk_cell BK531.out 1).trans rfl
              have hcz19_2 : wc.cell? ⟨gb531, 2, none⟩ = some (.int .i64 a0_2) := (blk_cell BK531.out 2).trans rfl
              have hcz19_3 : wc.cell? ⟨gb531, 3, none⟩ = some (.int .i64 a0_3) := (blk_cell BK531.out 3).trans rfl
              have hcz19_4 : wc.cell? ⟨gb531, 4, none⟩ = some (.int .i64 a0_4) := (blk_cell BK531.out 4).trans rfl
              have hfz19_0 := blk_frozen BK531.out 0
              have hfz19_1 := blk_frozen BK531.out 1
              have hfz19_2 := blk_frozen BK531.out 2
              have hfz19_3 := blk_frozen BK531.out 3
              have hfz19_4 := blk_frozen BK531.out 4
              go_wp2_with (first | (go_at_call 21; (with_reducible refine (insn_Name.calls a0_0 t532 t533 _ ?sideLN A17.out).mono ?_); (case sideLN => (repeat (first | exact HLN.out | (with_reducible refine LaidN.alloc ?_ _) | (with_reducible refine LaidN.drewN ?_ _) | (with_reducible refine LaidN.drew ?_) | (refine LaidN.below HLN.out ?_; repeat (first | (with_reducible first | exact HB.out | apply below_alloc | apply pw_below_drewN | apply below_drew1 | refine below_set ?_ GE531.out) | exact HB.out))))); rintro e w' ⟨rfl, ⟨nd, rfl⟩⟩; (try first | exact ⟨rfl, _, World.drewN_drewN _ _ _⟩ | exact ⟨rfl, _, Eq.trans (World.drewN_drewN _ _ _) (congrArg (World.drewN _) (Nat.add_assoc _ _ _))⟩)))
              repeat (go_quiet (first | (go_at_call 21; (with_reducible refine (insn_Name.calls a0_0 t532 t533 _ ?sideLN A17.out).mono ?_); (case sideLN => (repeat (first | exact HLN.out | (with_reducible refine LaidN.alloc ?_ _) | (with_reducible refine LaidN.drewN ?_ _) | (with_reducible refine LaidN.drew ?_) | (refine LaidN.below HLN.out ?_; repeat (first | (with_reducible first | exact HB.out | apply below_alloc | apply pw_below_drewN | apply below_drew1 | refine below_set ?_ GE531.out) | exact HB.out))))); rintro e w' ⟨rfl, ⟨nd, rfl⟩⟩; (try first | exact ⟨rfl, _, World.drewN_drewN _ _ _⟩ | exact ⟨rfl, _, Eq.trans (World.drewN_drewN _ _ _) (congrArg (World.drewN _) (Nat.add_assoc _ _ _))⟩))); try go_wp2_with (first | (go_at_call 21; (with_reducible refine (insn_Name.calls a0_0 t532 t533 _ ?sideLN A17.out).mono ?_); (case sideLN => (repeat (first | exact HLN.out | (with_reducible refine LaidN.alloc ?_ _) | (with_reducible refine LaidN.drewN ?_ _) | (with_reducible refine LaidN.drew ?_) | (refine LaidN.below HLN.out ?_; repeat (first | (with_reducible first | exact HB.out | apply below_alloc | apply pw_below_drewN | apply below_drew1 | refine below_set ?_ GE531.out) | exact HB.out))))); rintro e w' ⟨rfl, ⟨nd, rfl⟩⟩; (try first | exact ⟨rfl, _, World.drewN_drewN _ _ _⟩ | exact ⟨rfl, _, Eq.trans (World.drewN_drewN _ _ _) (congrArg (World.drewN _) (Nat.add_assoc _ _ _))⟩))))
              go_ret2
              exact ⟨by first | rfl | (simp [errW_none, errW_some] <;> rfl) | (simp [*, errW_none, errW_some] <;> rfl), by repeat (first | (with_reducible first | exact HB.out | apply below_alloc | apply pw_below_drewN | apply below_drew1 | refine below_set ?_ GE531.out) | exact HB.out)⟩
            · rw [if_neg c18] at H
              have c18b0 : (t532.toList == ([97, 100, 100, 105] : List UInt8)) = false := beq_eq_false_iff_ne.mpr c18
              have c18b1 : (t532.toList != ([97, 100, 100, 105] : List UInt8)) = true := bne_iff_ne.mpr c18
              by_cases c20 : t532.toList = ([97, 100, 100, 105, 119] : List UInt8)
              · rw [if_pos c20] at H
                have c20b0 : (t532.toList == ([97, 100, 100, 105, 119] : List UInt8)) = true := beq_iff_eq.mpr c20
                have c20b1 : (t532.toList != ([97, 100, 100, 105, 119] : List UInt8)) = false := bne_eq_false_iff_eq.mpr c20
                clear c20
                simp only [Option.some.injEq, Prod.mk.injEq] at H
                obtain ⟨rfl, rfl⟩ := H
                have hcz21_0 : wc.cell? ⟨gb531, 0, none⟩ = some (.int .u8 a0_0) := (blk_cell BK531.out 0).trans rfl
                have hcz21_1 : wc.cell? ⟨gb531, 1, none⟩ = some (.int .i64 a0_1) := (blk_cell BK531.out 1).trans rfl
                have hcz21_2 : wc.cell? ⟨gb531, 2, none⟩ = some (.int .i64 a0_2) := (blk_cell BK531.out 2).trans rfl
                have hcz21_3 : wc.cell? ⟨gb531, 3, none⟩ = some (.int .i64 a0_3) := (blk_cell BK531.out 3).trans rfl
                have hcz21_4 : wc.cell? ⟨gb531, 4, none⟩ = some (.int .i64 a0_4) := (blk_cell BK531.out 4).trans rfl
                have hfz21_0 := blk_frozen BK531.out 0
                have hfz21_1 := blk_frozen BK531.out 1
                have hfz21_2 := blk_frozen BK531.out 2
                have hfz21_3 := blk_frozen BK531.out 3
                have hfz21_4 := blk_frozen BK531.out 4
                go_wp2_with (first | (go_at_call 21; (with_reducible refine (insn_Name.calls a0_0 t532 t533 _ ?sideLN A17.out).mono ?_); (case sideLN => (repeat (first | exact HLN.out | (with_reducible refine LaidN.alloc ?_ _) | (with_reducible refine LaidN.drewN ?_ _) | (with_reducible refine LaidN.drew ?_) | (refine LaidN.below HLN.out ?_; repeat (first | (with_reducible first | exact HB.out | apply below_alloc | apply pw_below_drewN | apply below_drew1 | refine below_set ?_ GE531.out) | exact HB.out))))); rintro e w' ⟨rfl, ⟨nd, rfl⟩⟩; (try first | exact ⟨rfl, _, World.drewN_drewN _ _ _⟩ | exact ⟨rfl, _, Eq.trans (World.drewN_drewN _ _ _) (congrArg (World.drewN _) (Nat.add_assoc _ _ _))⟩)))
                repeat (go_quiet (first | (go_at_call 21; (with_reducible refine (insn_Name.calls a0_0 t532 t533 _ ?sideLN A17.out).mono ?_); (case sideLN => (repeat (first | exact HLN.out | (with_reducible refine LaidN.alloc ?_ _) | (with_reducible refine LaidN.drewN ?_ _) | (with_reducible refine LaidN.drew ?_) | (refine LaidN.below HLN.out ?_; repeat (first | (with_reducible first | exact HB.out | apply below_alloc | apply pw_below_drewN | apply below_drew1 | refine below_set ?_ GE531.out) | exact HB.out))))); rintro e w' ⟨rfl, ⟨nd, rfl⟩⟩; (try first | exact ⟨rfl, _, World.drewN_drewN _ _ _⟩ | exact ⟨rfl, _, Eq.trans (World.drewN_drewN _ _ _) (congrArg (World.drewN _) (Nat.add_assoc _ _ _))⟩))); try go_wp2_with (first | (go_at_call 21; (with_reducible refine (insn_Name.calls a0_0 t532 t533 _ ?sideLN A17.out).mono ?_); (case sideLN => (repeat (first | exact HLN.out | (with_reducible refine LaidN.alloc ?_ _) | (with_reducible refine LaidN.drewN ?_ _) | (with_reducible refine LaidN.drew ?_) | (refine LaidN.below HLN.out ?_; repeat (first | (with_reducible first | exact HB.out | apply below_alloc | apply pw_below_drewN | apply below_drew1 | refine below_set ?_ GE531.out) | exact HB.out))))); rintro e w' ⟨rfl, ⟨nd, rfl⟩⟩; (try first | exact ⟨rfl, _, World.drewN_drewN _ _ _⟩ | exact ⟨rfl, _, Eq.trans (World.drewN_drewN _ _ _) (congrArg (World.drewN _) (Nat.add_assoc _ _ _))⟩))))
                go_ret2
                exact ⟨by first | rfl | (simp [errW_none, errW_some] <;> rfl) | (simp [*, errW_none, errW_some] <;> rfl), by repeat (first | (with_reducible first | exact HB.out | apply below_alloc | apply pw_below_drewN | apply below_drew1 | refine below_set ?_ GE531.out) | exact HB.out)⟩
              · rw [if_neg c20] at H
                have c20b0 : (t532.toList == ([97, 100, 100, 105, 119] : List UInt8)) = false := beq_eq_false_iff_ne.mpr c20
                have c20b1 : (t532.toList != ([97, 100, 100, 105, 119] : List UInt8)) = true := bne_iff_ne.mpr c20
                by_cases c22 : t532.toList = ([108, 117, 105] : List UInt8)
                · rw [if_pos c22] at H
                  have c22b0 : (t532.toList == ([108, 117, 105] : List UInt8)) = true := beq_iff_eq.mpr c22
                  have c22b1 : (t532.toList != ([108, 117, 105] : List UInt8)) = false := bne_eq_false_iff_eq.mpr c22
                  clear c22
                  by_cases c23 : t533 = 0
                  · rw [if_pos c23] at H
                    have c23b0 : (t533 == 0) = true := beq_iff_eq.mpr c23
                    have c23b1 : (t533 != 0) = false := bne_eq_false_iff_eq.mpr c23
                    clear c23
                    simp only [Option.some.injEq, Prod.mk.injEq] at H
                    obtain ⟨rfl, rfl⟩ := H
                    have hcz24_0 : wc.cell? ⟨gb531, 0, none⟩ = some (.int .u8 a0_0) := (blk_cell BK531.out 0).trans rfl
                    have hcz24_1 : wc.cell? ⟨gb531, 1, none⟩ = some (.int .i64 a0_1) := (blk_cell BK531.out 1).trans rfl
                    have hcz24_2 : wc.cell? ⟨gb531, 2, none⟩ = some (.int .i64 a0_2) := (blk_cell BK531.out 2).trans rfl
                    have hcz24_3 : wc.cell? ⟨gb531, 3, none⟩ = some (.int .i64 a0_3) := (blk_cell BK531.out 3).trans rfl
                    have hcz24_4 : wc.cell? ⟨gb531, 4, none⟩ = some (.int .i64 a0_4) := (blk_cell BK531.out 4).trans rfl
                    have hfz24_0 := blk_frozen BK531.out 0
                    have hfz24_1 := blk_frozen BK531.out 1
                    have hfz24_2 := blk_frozen BK531.out 2
                    have hfz24_3 := blk_frozen BK531.out 3
                    have hfz24_4 := blk_frozen BK531.out 4
                    go_wp2_with (first | (go_at_call 21; (with_reducible refine (insn_Name.calls a0_0 t532 t533 _ ?sideLN A17.out).mono ?_); (case sideLN => (repeat (first | exact HLN.out | (with_reducible refine LaidN.alloc ?_ _) | (with_reducible refine LaidN.drewN ?_ _) | (with_reducible refine LaidN.drew ?_) | (refine LaidN.below HLN.out ?_; repeat (first | (with_reducible first | exact HB.out | apply below_alloc | apply pw_below_drewN | apply below_drew1 | refine below_set ?_ GE531.out) | exact HB.out))))); rintro e w' ⟨rfl, ⟨nd, rfl⟩⟩; (try first | exact ⟨rfl, _, World.drewN_drewN _ _ _⟩ | exact ⟨rfl, _, Eq.trans (World.drewN_drewN _ _ _) (congrArg (World.drewN _) (Nat.add_assoc _ _ _))⟩)))
                    repeat (go_quiet (first | (go_at_call 21; (with_reducible refine (insn_Name.calls a0_0 t532 t533 _ ?sideLN A17.out).mono ?_); (case sideLN => (repeat (first | exact HLN.out | (with_reducible refine LaidN.alloc ?_ _) | (with_reducible refine LaidN.drewN ?_ _) | (with_reducible refine LaidN.drew ?_) | (refine LaidN.below HLN.out ?_; repeat (first | (with_reducible first | exact HB.out | apply below_alloc | apply pw_below_drewN | apply below_drew1 | refine below_set ?_ GE531.out) | exact HB.out))))); rintro e w' ⟨rfl, ⟨nd, rfl⟩⟩; (try first | exact ⟨rfl, _, World.drewN_drewN _ _ _⟩ | exact ⟨rfl, _, Eq.trans (World.drewN_drewN _ _ _) (congrArg (World.drewN _) (Nat.add_assoc _ _ _))⟩))); try go_wp2_with (first | (go_at_call 21; (with_reducible refine (insn_Name.calls a0_0 t532 t533 _ ?sideLN A17.out).mono ?_); (case sideLN => (repeat (first | exact HLN.out | (with_reducible refine LaidN.alloc ?_ _) | (with_reducible refine LaidN.drewN ?_ _) | (with_reducible refine LaidN.drew ?_) | (refine LaidN.below HLN.out ?_; repeat (first | (with_reducible first | exact HB.out | apply below_alloc | apply pw_below_drewN | apply below_drew1 | refine below_set ?_ GE531.out) | exact HB.out))))); rintro e w' ⟨rfl, ⟨nd, rfl⟩⟩; (try first | exact ⟨rfl, _, World.drewN_drewN _ _ _⟩ | exact ⟨rfl, _, Eq.trans (World.drewN_drewN _ _ _) (congrArg (World.drewN _) (Nat.add_assoc _ _ _))⟩))))
                    go_ret2
                    exact ⟨by first | rfl | (simp [errW_none, errW_some] <;> rfl) | (simp [*, errW_none, errW_some] <;> rfl), by repeat (first | (with_reducible first | exact HB.out | apply below_alloc | apply pw_below_drewN | apply below_drew1 | refine below_set ?_ GE531.out) | exact HB.out)⟩
                  · rw [if_neg c23] at H
                    have c23b0 : (t533 == 0) = false := beq_eq_false_iff_ne.mpr c23
                    have c23b1 : (t533 != 0) = true := bne_iff_ne.mpr c23
                    simp only [Option.some.injEq, Prod.mk.injEq] at H
                    obtain ⟨rfl, rfl⟩ := H
                    have hcz25_0 : wc.cell? ⟨gb531, 0, none⟩ = some (.int .u8 a0_0) := (blk_cell BK531.out 0).trans rfl
                    have hcz25_1 : wc.cell? ⟨gb531, 1, none⟩ = some (.int .i64 a0_1) := (blk_cell BK531.out 1).trans rfl
                    have hcz25_2 : wc.cell? ⟨gb531, 2, none⟩ = some (.int .i64 a0_2) := (blk_cell BK531.out 2).trans rfl
                    have hcz25_3 : wc.cell? ⟨gb531, 3, none⟩ = some (.int .i64 a0_3) := (blk_cell BK531.out 3).trans rfl
                    have hcz25_4 : wc.cell? ⟨gb531, 4, none⟩ = some (.int .i64 a0_4) := (blk_cell BK531.out 4).trans rfl
                    have hfz25_0 := blk_frozen BK531.out 0
                    have hfz25_1 := blk_frozen BK531.out 1
                    have hfz25_2 := blk_frozen BK531.out 2
                    have hfz25_3 := blk_frozen BK531.out 3
                    have hfz25_4 := blk_frozen BK531.out 4
                    go_wp2_with (first | (go_at_call 21; (with_reducible refine (insn_Name.calls a0_0 t532 t533 _ ?sideLN A17.out).mono ?_); (case sideLN => (repeat (first | exact HLN.out | (with_reducible refine LaidN.alloc ?_ _) | (with_reducible refine LaidN.drewN ?_ _) | (with_reducible refine LaidN.drew ?_) | (refine LaidN.below HLN.out ?_; repeat (first | (with_reducible first | exact HB.out | apply below_alloc | apply pw_below_drewN | apply below_drew1 | refine below_set ?_ GE531.out) | exact HB.out))))); rintro e w' ⟨rfl, ⟨nd, rfl⟩⟩; (try first | exact ⟨rfl, _, World.drewN_drewN _ _ _⟩ | exact ⟨rfl, _, Eq.trans (World.drewN_drewN _ _ _) (congrArg (World.drewN _) (Nat.add_assoc _ _ _))⟩)))
                    repeat (go_quiet (first | (go_at_call 21; (with_reducible refine (insn_Name.calls a0_0 t532 t533 _ ?sideLN A17.out).mono ?_); (case sideLN => (repeat (first | exact HLN.out | (with_reducible refine LaidN.alloc ?_ _) | (with_reducible refine LaidN.drewN ?_ _) | (with_reducible refine LaidN.drew ?_) | (refine LaidN.below HLN.out ?_; repeat (first | (with_reducible first | exact HB.out | apply below_alloc | apply pw_below_drewN | apply below_drew1 | refine below_set ?_ GE531.out) | exact HB.out))))); rintro e w' ⟨rfl, ⟨nd, rfl⟩⟩; (try first | exact ⟨rfl, _, World.drewN_drewN _ _ _⟩ | exact ⟨rfl, _, Eq.trans (World.drewN_drewN _ _ _) (congrArg (World.drewN _) (Nat.add_assoc _ _ _))⟩))); try go_wp2_with (first | (go_at_call 21; (with_reducible refine (insn_Name.calls a0_0 t532 t533 _ ?sideLN A17.out).mono ?_); (case sideLN => (repeat (first | exact HLN.out | (with_reducible refine LaidN.alloc ?_ _) | (with_reducible refine LaidN.drewN ?_ _) | (with_reducible refine LaidN.drew ?_) | (refine LaidN.below HLN.out ?_; repeat (first | (with_reducible first | exact HB.out | apply below_alloc | apply pw_below_drewN | apply below_drew1 | refine below_set ?_ GE531.out) | exact HB.out))))); rintro e w' ⟨rfl, ⟨nd, rfl⟩⟩; (try first | exact ⟨rfl, _, World.drewN_drewN _ _ _⟩ | exact ⟨rfl, _, Eq.trans (World.drewN_drewN _ _ _) (congrArg (World.drewN _) (Nat.add_assoc _ _ _))⟩))))
                    go_ret2
                    exact ⟨by first | rfl | (simp [errW_none, errW_some] <;> rfl) | (simp [*, errW_none, errW_some] <;> rfl), by repeat (first | (with_reducible first | exact HB.out | apply below_alloc | apply pw_below_drewN | apply below_drew1 | refine below_set ?_ GE531.out) | exact HB.out)⟩
                · rw [if_neg c22] at H
                  have c22b0 : (t532.toList == ([108, 117, 105] : List UInt8)) = false := beq_eq_false_iff_ne.mpr c22
                  have c22b1 : (t532.toList != ([108, 117, 105] : List UInt8)) = true := bne_iff_ne.mpr c22
                  by_cases c26 : t532.toList = ([115, 108, 108, 105] : List UInt8)
                  · rw [if_pos c26] at H
                    have c26b0 : (t532.toList == ([115, 108, 108, 105] : List UInt8)) = true := beq_iff_eq.mpr c26
                    have c26b1 : (t532.toList != ([115, 108, 108, 105] : List UInt8)) = false := bne_eq_false_iff_eq.mpr c26
                    clear c26
                    by_cases c27 : 0 ≤ a0_4
                    · rw [if_pos c27] at H
                      have c27b0 := eq_true c27
                      have c27b1 : decide (0 ≤ a0_4) = true := decide_eq_true c27
                      clear c27
                      obtain ⟨ji28, hji28⟩ : ∃ j_ : Int, (shl .u64 x8_3 a0_4) = j_ := ⟨_, rfl⟩
                      replace H : (some (ji28, (t533 == 0))) = some (r1, r2) := by first | (rw [hji28] at H; exact H) | (simp only [hji28] at H ⊢; exact H)
                      (try rw [hji28] at A17)
                      have hji28_ : (IntKind.u64.wrap (x8_3 * 2 ^ min a0_4.toNat 64)) = ji28 := hji28
                      have hji28z : a0_4 ≤ 64 → (IntKind.u64.wrap (x8_3 * 2 ^ a0_4.toNat)) = ji28 := shl_small hji28
                      simp only [Option.some.injEq, Prod.mk.injEq] at H
                      obtain ⟨rfl, rfl⟩ := H
                      have hcz29_0 : wc.cell? ⟨gb531, 0, none⟩ = some (.int .u8 a0_0) := (blk_cell BK531.out 0).trans rfl
                      have hcz29_1 : wc.cell? ⟨gb531, 1, none⟩ = some (.int .i64 a0_1) := (blk_cell BK531.out 1).trans rfl
                      have hcz29_2 : wc.cell? ⟨gb531, 2, none⟩ = some (.int .i64 a0_2) := (blk_cell BK531.out 2).trans rfl
                      have hcz29_3 : wc.cell? ⟨gb531, 3, none⟩ = some (.int .i64 a0_3) := (blk_cell BK531.out 3).trans rfl
                      have hcz29_4 : wc.cell? ⟨gb531, 4, none⟩ = some (.int .i64 a0_4) := (blk_cell BK531.out 4).trans rfl
                      have hfz29_0 := blk_frozen BK531.out 0
                      have hfz29_1 := blk_frozen BK531.out 1
                      have hfz29_2 := blk_frozen BK531.out 2
                      have hfz29_3 := blk_frozen BK531.out 3
                      have hfz29_4 := blk_frozen BK531.out 4
                      go_wp2_with (first | (go_at_call 21; (with_reducible refine (insn_Name.calls a0_0 t532 t533 _ ?sideLN A17.out).mono ?_); (case sideLN => (repeat (first | exact HLN.out | (with_reducible refine LaidN.alloc ?_ _) | (with_reducible refine LaidN.drewN ?_ _) | (with_reducible refine LaidN.drew ?_) | (refine LaidN.below HLN.out ?_; repeat (first | (with_reducible first | exact HB.out | apply below_alloc | apply pw_below_drewN | apply below_drew1 | refine below_set ?_ GE531.out) | exact HB.out))))); rintro e w' ⟨rfl, ⟨nd, rfl⟩⟩; (try first | exact ⟨rfl, _, World.drewN_drewN _ _ _⟩ | exact ⟨rfl, _, Eq.trans (World.drewN_drewN _ _ _) (congrArg (World.drewN _) (Nat.add_assoc _ _ _))⟩)))
                      repeat (go_quiet (first | (go_at_call 21; (with_reducible refine (insn_Name.calls a0_0 t532 t533 _ ?sideLN A17.out).mono ?_); (case sideLN => (repeat (first | exact HLN.out | (with_reducible refine LaidN.alloc ?_ _) | (with_reducible refine LaidN.drewN ?_ _) | (with_reducible refine LaidN.drew ?_) | (refine LaidN.below HLN.out ?_; repeat (first | (with_reducible first | exact HB.out | apply below_alloc | apply pw_below_drewN | apply below_drew1 | refine below_set ?_ GE531.out) | exact HB.out))))); rintro e w' ⟨rfl, ⟨nd, rfl⟩⟩; (try first | exact ⟨rfl, _, World.drewN_drewN _ _ _⟩ | exact ⟨rfl, _, Eq.trans (World.drewN_drewN _ _ _) (congrArg (World.drewN _) (Nat.add_assoc _ _ _))⟩))); try go_wp2_with (first | (go_at_call 21; (with_reducible refine (insn_Name.calls a0_0 t532 t533 _ ?sideLN A17.out).mono ?_); (case sideLN => (repeat (first | exact HLN.out | (with_reducible refine LaidN.alloc ?_ _) | (with_reducible refine LaidN.drewN ?_ _) | (with_reducible refine LaidN.drew ?_) | (refine LaidN.below HLN.out ?_; repeat (first | (with_reducible first | exact HB.out | apply below_alloc | apply pw_below_drewN | apply below_drew1 | refine below_set ?_ GE531.out) | exact HB.out))))); rintro e w' ⟨rfl, ⟨nd, rfl⟩⟩; (try first | exact ⟨rfl, _, World.drewN_drewN _ _ _⟩ | exact ⟨rfl, _, Eq.trans (World.drewN_drewN _ _ _) (congrArg (World.drewN _) (Nat.add_assoc _ _ _))⟩))))
                      go_ret2
                      exact ⟨by first | rfl | (simp [errW_none, errW_some] <;> rfl) | (simp only [← hji28]; first | rfl | (simp [errW_none, errW_some] <;> rfl)) | (simp [*, errW_none, errW_some] <;> rfl), by repeat (first | (with_reducible first | exact HB.out | apply below_alloc | apply pw_below_drewN | apply below_drew1 | refine below_set ?_ GE531.out) | exact HB.out)⟩
                    · rw [if_neg c27] at H
                      exact absurd H (by simp)
                  · rw [if_neg c26] at H
                    have c26b0 : (t532.toList == ([115, 108, 108, 105] : List UInt8)) = false := beq_eq_false_iff_ne.mpr c26
                    have c26b1 : (t532.toList != ([115, 108, 108, 105] : List UInt8)) = true := bne_iff_ne.mpr c26
                    simp only [Option.some.injEq, Prod.mk.injEq] at H
                    obtain ⟨rfl, rfl⟩ := H
                    have hcz30_0 : wc.cell? ⟨gb531, 0, none⟩ = some (.int .u8 a0_0) := (blk_cell BK531.out 0).trans rfl
                    have hcz30_1 : wc.cell? ⟨gb531, 1, none⟩ = some (.int .i64 a0_1) := (blk_cell BK531.out 1).trans rfl
                    have hcz30_2 : wc.cell? ⟨gb531, 2, none⟩ = some (.int .i64 a0_2) := (blk_cell BK531.out 2).trans rfl
                    have hcz30_3 : wc.cell? ⟨gb531, 3, none⟩ = some (.int .i64 a0_3) := (blk_cell BK531.out 3).trans rfl
                    have hcz30_4 : wc.cell? ⟨gb531, 4, none⟩ = some (.int .i64 a0_4) := (blk_cell BK531.out 4).trans rfl
                    have hfz30_0 := blk_frozen BK531.out 0
                    have hfz30_1 := blk_frozen BK531.out 1
                    have hfz30_2 := blk_frozen BK531.out 2
                    have hfz30_3 := blk_frozen BK531.out 3
                    have hfz30_4 := blk_frozen BK531.out 4
                    go_wp2_with (first | (go_at_call 21; (with_reducible refine (insn_Name.calls a0_0 t532 t533 _ ?sideLN A17.out).mono ?_); (case sideLN => (repeat (first | exact HLN.out | (with_reducible refine LaidN.alloc ?_ _) | (with_reducible refine LaidN.drewN ?_ _) | (with_reducible refine LaidN.drew ?_) | (refine LaidN.below HLN.out ?_; repeat (first | (with_reducible first | exact HB.out | apply below_alloc | apply pw_below_drewN | apply below_drew1 | refine below_set ?_ GE531.out) | exact HB.out))))); rintro e w' ⟨rfl, ⟨nd, rfl⟩⟩; (try first | exact ⟨rfl, _, World.drewN_drewN _ _ _⟩ | exact ⟨rfl, _, Eq.trans (World.drewN_drewN _ _ _) (congrArg (World.drewN _) (Nat.add_assoc _ _ _))⟩)))
                    repeat (go_quiet (first | (go_at_call 21; (with_reducible refine (insn_Name.calls a0_0 t532 t533 _ ?sideLN A17.out).mono ?_); (case sideLN => (repeat (first | exact HLN.out | (with_reducible refine LaidN.alloc ?_ _) | (with_reducible refine LaidN.drewN ?_ _) | (with_reducible refine LaidN.drew ?_) | (refine LaidN.below HLN.out ?_; repeat (first | (with_reducible first | exact HB.out | apply below_alloc | apply pw_below_drewN | apply below_drew1 | refine below_set ?_ GE531.out) | exact HB.out))))); rintro e w' ⟨rfl, ⟨nd, rfl⟩⟩; (try first | exact ⟨rfl, _, World.drewN_drewN _ _ _⟩ | exact ⟨rfl, _, Eq.trans (World.drewN_drewN _ _ _) (congrArg (World.drewN _) (Nat.add_assoc _ _ _))⟩))); try go_wp2_with (first | (go_at_call 21; (with_reducible refine (insn_Name.calls a0_0 t532 t533 _ ?sideLN A17.out).mono ?_); (case sideLN => (repeat (first | exact HLN.out | (with_reducible refine LaidN.alloc ?_ _) | (with_reducible refine LaidN.drewN ?_ _) | (with_reducible refine LaidN.drew ?_) | (refine LaidN.below HLN.out ?_; repeat (first | (with_reducible first | exact HB.out | apply below_alloc | apply pw_below_drewN | apply below_drew1 | refine below_set ?_ GE531.out) | exact HB.out))))); rintro e w' ⟨rfl, ⟨nd, rfl⟩⟩; (try first | exact ⟨rfl, _, World.drewN_drewN _ _ _⟩ | exact ⟨rfl, _, Eq.trans (World.drewN_drewN _ _ _) (congrArg (World.drewN _) (Nat.add_assoc _ _ _))⟩))))
                    go_ret2
                    exact ⟨by first | rfl | (simp [errW_none, errW_some] <;> rfl) | (simp [*, errW_none, errW_some] <;> rfl), by repeat (first | (with_reducible first | exact HB.out | apply below_alloc | apply pw_below_drewN | apply below_drew1 | refine below_set ?_ GE531.out) | exact HB.out)⟩

end Go.Proofs.YtpijiohiohiilaaDoor.D
