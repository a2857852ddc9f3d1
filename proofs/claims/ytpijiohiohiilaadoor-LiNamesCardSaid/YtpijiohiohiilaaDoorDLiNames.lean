/- Walks and rows of the laws of quoin: each Lean function here tells just what the Go function of its name answers. Conditions: none but those that a row itself names. Written by a program of this session (wip/reprint.py) over the kit print, and turned by it. -/
import Derived.Test.YtpijiohiohiilaaDoorD0
import Derived.Test.YtpijiohiohiilaaDoorDLi
import Derived.Test.YtpijiohiohiilaaDoorDQuoinlaw18
import Derived.Test.YtpijiohiohiilaaDoorGLi
namespace Go.Proofs.YtpijiohiohiilaaDoor.D
open Go.RowKit Go.Proofs.YtpijiohiohiilaaDoorW.PrintWords Go.Proofs.YtpijiohiohiilaaDoorW.PrintLast Go.Proofs.YtpijiohiohiilaaDoorW.PrintMore
attribute [local go_sem] max2_int min2_int max_two min_two max_three min_three max_four min_four   -- for this text's walks alone
set_option linter.unusedVariables false
set_option linter.unusedSimpArgs false

/-! ### quoinlaw18_LiNames: function 7 -/
def quoinlaw18_LiNames.f (k : Nat)  : Option (Bool) := (quoinlaw18_is.f k 4294967296 (([(⟨22, 5, 0, 0, 1⟩ : S33), (⟨28, 5, 5, 0, 32⟩ : S33)] : List (S33)))).bind fun t299 => ((quoinlaw18_is.f k 9223372036854775807 (([(⟨22, 5, 0, 0, (-1)⟩ : S33), (⟨28, 5, 5, 0, 63⟩ : S33), (⟨22, 5, 5, 0, (-1)⟩ : S33)] : List (S33)))).bind fun t303 => ((li_Parts.f 4095).bind fun bt304 => ((li_Parts.f (-2049)).bind fun bt306 => ((li_Steps.f k 32 0).bind fun bt308 => ((quoinlaw18_alive.f k).bind fun t312 => (if t312 = true then (if t299 = true then (if t303 = true then (if bt304.1 = 1 then (if bt304.2 = (-1) then (if bt306.1 = (-1) then (if bt306.2 = 2047 then (some (bt308.2 == 2)) else (none)) else (none)) else (none)) else (none)) else (none)) else (none)) else (none)))))))
theorem quoinlaw18_LiNames.mono : ∀ k, LeO (quoinlaw18_LiNames.f k ) (quoinlaw18_LiNames.f (k + 1) ) := by
  intro  k
  unfold quoinlaw18_LiNames.f
  repeat' first
      | (with_reducible exact li_Steps.mono _ _ _)
      | (with_reducible exact quoinlaw18_alive.mono _)
      | (with_reducible exact quoinlaw18_is.mono _ _ _)
      | (with_reducible exact LeO.refl _)
      | (with_reducible exact LeO.none _)
      | (with_reducible refine LeO.ite ?_ ?_)
      | (with_reducible refine LeO.bind ?_ (fun _ => ?_))
      | exact li_Steps.mono _ _ _
      | exact quoinlaw18_alive.mono _
      | exact quoinlaw18_is.mono _ _ _
      | exact LeO.none _
      | refine LeO.ite ?_ ?_
      | refine LeO.bind ?_ (fun _ => ?_)
set_option maxHeartbeats 8000000 in
set_option maxRecDepth 100000 in
theorem quoinlaw18_LiNames.calls (k : Nat)  (r : Bool) (w : World) (hN : LaidN w) (h : quoinlaw18_LiNames.f k  = some r) :
    Calls Tryd.prog 7 #[] w fun e w' => e = .returned (.bool r) ∧ Below w.heap.size w w' := by
  have HLN := Aside0.mk hN
  clear hN
  have hu33 := Tryd.underlying33
  have HB := Aside0.mk (Below.refl w.heap.size w)
  have H : ((quoinlaw18_is.f k 4294967296 (([(⟨22, 5, 0, 0, 1⟩ : S33), (⟨28, 5, 5, 0, 32⟩ : S33)] : List (S33)))).bind fun t299 => ((quoinlaw18_is.f k 9223372036854775807 (([(⟨22, 5, 0, 0, (-1)⟩ : S33), (⟨28, 5, 5, 0, 63⟩ : S33), (⟨22, 5, 5, 0, (-1)⟩ : S33)] : List (S33)))).bind fun t303 => ((li_Parts.f 4095).bind fun bt304 => ((li_Parts.f (-2049)).bind fun bt306 => ((li_Steps.f k 32 0).bind fun bt308 => ((quoinlaw18_alive.f k).bind fun t312 => (if t312 = true then (if t299 = true then (if t303 = true then (if bt304.1 = 1 then (if bt304.2 = (-1) then (if bt306.1 = (-1) then (if bt306.2 = 2047 then (some (bt308.2 == 2)) else (none)) else (none)) else (none)) else (none)) else (none)) else (none)) else (none)))))))) = some r := h
  clear h
  obtain ⟨y296, hy296⟩ : ∃ y_ : List (S33), y_ = (([(⟨22, 5, 0, 0, 1⟩ : S33), (⟨28, 5, 5, 0, 32⟩ : S33)] : List (S33))) := ⟨_, rfl⟩
  replace H : ((quoinlaw18_is.f k 4294967296 y296).bind fun t299 => ((quoinlaw18_is.f k 9223372036854775807 (([(⟨22, 5, 0, 0, (-1)⟩ : S33), (⟨28, 5, 5, 0, 63⟩ : S33), (⟨22, 5, 5, 0, (-1)⟩ : S33)] : List (S33)))).bind fun t303 => ((li_Parts.f 4095).bind fun bt304 => ((li_Parts.f (-2049)).bind fun bt306 => ((li_Steps.f k 32 0).bind fun bt308 => ((quoinlaw18_alive.f k).bind fun t312 => (if t312 = true then (if t299 = true then (if t303 = true then (if bt304.1 = 1 then (if bt304.2 = (-1) then (if bt306.1 = (-1) then (if bt306.2 = 2047 then (some (bt308.2 == 2)) else (none)) else (none)) else (none)) else (none)) else (none)) else (none)) else (none)))))))) = some r := by first | (rw [hy296]; with_reducible exact H) | (have H2_ := (Option.bind_some _ _).symm.trans H; rw [hy296]; with_reducible exact H2_) | (have H2_ := (Option.bind_some _ _).symm.trans H; with_reducible exact H2_) | with_reducible exact H | (rw [hy296]; exact H) | exact H
  have Ny296 := Aside0.mk hy296
  clear hy296
  replace H := Option.bind_eq_some_iff.mp H
  obtain ⟨t299, A10, H⟩ := H
  replace H : ((quoinlaw18_is.f k 9223372036854775807 (([(⟨22, 5, 0, 0, (-1)⟩ : S33), (⟨28, 5, 5, 0, 63⟩ : S33), (⟨22, 5, 5, 0, (-1)⟩ : S33)] : List (S33)))).bind fun t303 => ((li_Parts.f 4095).bind fun bt304 => ((li_Parts.f (-2049)).bind fun bt306 => ((li_Steps.f k 32 0).bind fun bt308 => ((quoinlaw18_alive.f k).bind fun t312 => (if t312 = true then (if t299 = true then (if t303 = true then (if bt304.1 = 1 then (if bt304.2 = (-1) then (if bt306.1 = (-1) then (if bt306.2 = 2047 then (some (bt308.2 == 2)) else (none)) else (none)) else (none)) else (none)) else (none)) else (none)) else (none))))))) = some r := H
  have A1 := Aside0.mk A10
  clear A10
  obtain ⟨y300, hy300⟩ : ∃ y_ : List (S33), y_ = (([(⟨22, 5, 0, 0, (-1)⟩ : S33), (⟨28, 5, 5, 0, 63⟩ : S33), (⟨22, 5, 5, 0, (-1)⟩ : S33)] : List (S33))) := ⟨_, rfl⟩
  replace H : ((quoinlaw18_is.f k 9223372036854775807 y300).bind fun t303 => ((li_Parts.f 4095).bind fun bt304 => ((li_Parts.f (-2049)).bind fun bt306 => ((li_Steps.f k 32 0).bind fun bt308 => ((quoinlaw18_alive.f k).bind fun t312 => (if t312 = true then (if t299 = true then (if t303 = true then (if bt304.1 = 1 then (if bt304.2 = (-1) then (if bt306.1 = (-1) then (if bt306.2 = 2047 then (some (bt308.2 == 2)) else (none)) else (none)) else (none)) else (none)) else (none)) else (none)) else (none))))))) = some r := by first | (rw [hy300]; with_reducible exact H) | (have H2_ := (Option.bind_some _ _).symm.trans H; rw [hy300]; with_reducible exact H2_) | (have H2_ := (Option.bind_some _ _).symm.trans H; with_reducible exact H2_) | with_reducible exact H | (rw [hy300]; exact H) | exact H
  have Ny300 := Aside0.mk hy300
  clear hy300
  replace H := Option.bind_eq_some_iff.mp H
  obtain ⟨t303, A20, H⟩ := H
  replace H : ((li_Parts.f 4095).bind fun bt304 => ((li_Parts.f (-2049)).bind fun bt306 => ((li_Steps.f k 32 0).bind fun bt308 => ((quoinlaw18_alive.f k).bind fun t312 => (if t312 = true then (if t299 = true then (if t303 = true then (if bt304.1 = 1 then (if bt304.2 = (-1) then (if bt306.1 = (-1) then (if bt306.2 = 2047 then (some (bt308.2 == 2)) else (none)) else (none)) else (none)) else (none)) else (none)) else (none)) else (none)))))) = some r := H
  have A2 := Aside0.mk A20
  clear A20
  replace H := Option.bind_eq_some_iff.mp H
  obtain ⟨⟨t304, t305⟩, A30, H⟩ := H
  replace H : ((li_Parts.f (-2049)).bind fun bt306 => ((li_Steps.f k 32 0).bind fun bt308 => ((quoinlaw18_alive.f k).bind fun t312 => (if t312 = true then (if t299 = true then (if t303 = true then (if t304 = 1 then (if t305 = (-1) then (if bt306.1 = (-1) then (if bt306.2 = 2047 then (some (bt308.2 == 2)) else (none)) else (none)) else (none)) else (none)) else (none)) else (none)) else (none))))) = some r := H
  have A3 := Aside0.mk A30
  clear A30
  replace H := Option.bind_eq_some_iff.mp H
  obtain ⟨⟨t306, t307⟩, A40, H⟩ := H
  replace H : ((li_Steps.f k 32 0).bind fun bt308 => ((quoinlaw18_alive.f k).bind fun t312 => (if t312 = true then (if t299 = true then (if t303 = true then (if t304 = 1 then (if t305 = (-1) then (if t306 = (-1) then (if t307 = 2047 then (some (bt308.2 == 2)) else (none)) else (none)) else (none)) else (none)) else (none)) else (none)) else (none)))) = some r := H
  have A4 := Aside0.mk A40
  clear A40
  replace H := Option.bind_eq_some_iff.mp H
  obtain ⟨⟨t308, t309⟩, A50, H⟩ := H
  replace H : ((quoinlaw18_alive.f k).bind fun t312 => (if t312 = true then (if t299 = true then (if t303 = true then (if t304 = 1 then (if t305 = (-1) then (if t306 = (-1) then (if t307 = 2047 then (some (t309 == 2)) else (none)) else (none)) else (none)) else (none)) else (none)) else (none)) else (none))) = some r := H
  have A5 := Aside0.mk A50
  clear A50
  replace H := Option.bind_eq_some_iff.mp H
  obtain ⟨t312, A60, H⟩ := H
  replace H : (if t312 = true then (if t299 = true then (if t303 = true then (if t304 = 1 then (if t305 = (-1) then (if t306 = (-1) then (if t307 = 2047 then (some (t309 == 2)) else (none)) else (none)) else (none)) else (none)) else (none)) else (none)) else (none)) = some r := H
  have A6 := Aside0.mk A60
  clear A60
  by_cases c7 : t312 = true
  · subst c7
    have H1 : (if t299 = true then (if t303 = true then (if t304 = 1 then (if t305 = (-1) then (if t306 = (-1) then (if t307 = 2047 then (some (t309 == 2)) else (none)) else (none)) else (none)) else (none)) else (none)) else (none)) = some r := by rw [if_pos rfl] at H; exact H
    clear H
    have H := H1
    clear H1
    by_cases c8 : t299 = true
    · subst c8
      have H1 : (if t303 = true then (if t304 = 1 then (if t305 = (-1) then (if t306 = (-1) then (if t307 = 2047 then (some (t309 == 2)) else (none)) else (none)) else (none)) else (none)) else (none)) = some r := by rw [if_pos rfl] at H; exact H
      clear H
      have H := H1
      clear H1
      by_cases c9 : t303 = true
      · subst c9
        have H1 : (if t304 = 1 then (if t305 = (-1) then (if t306 = (-1) then (if t307 = 2047 then (some (t309 == 2)) else (none)) else (none)) else (none)) else (none)) = some r := by rw [if_pos rfl] at H; exact H
        clear H
        have H := H1
        clear H1
        by_cases c10 : t304 = 1
        · rw [if_pos c10] at H
          have c10b0 : (t304 == 1) = true := beq_iff_eq.mpr c10
          have c10b1 : (t304 != 1) = false := bne_eq_false_iff_eq.mpr c10
          clear c10
          by_cases c11 : t305 = (-1)
          · rw [if_pos c11] at H
            have c11b0 : (t305 == (-1)) = true := beq_iff_eq.mpr c11
            have c11b1 : (t305 != (-1)) = false := bne_eq_false_iff_eq.mpr c11
            clear c11
            by_cases c12 : t306 = (-1)
            · rw [if_pos c12] at H
              have c12b0 : (t306 == (-1)) = true := beq_iff_eq.mpr c12
              have c12b1 : (t306 != (-1)) = false := bne_eq_false_iff_eq.mpr c12
              clear c12
              by_cases c13 : t307 = 2047
              · rw [if_pos c13] at H
                have c13b0 : (t307 == 2047) = true := beq_iff_eq.mpr c13
                have c13b1 : (t307 != 2047) = false := bne_eq_false_iff_eq.mpr c13
                clear c13
                obtain rfl := Option.some.inj H
                go_enter Tryd.func7, Tryd.ntmps7
                go_wp2_with (first | ((with_reducible refine gate_dst (N := 11) rfl ?_); refine Kd.R_lit k33 _ 33 ?hg (N := 11) ?hd (xs := ([(⟨22, 5, 0, 0, 1⟩ : S33), (⟨28, 5, 5, 0, 32⟩ : S33)] : List (S33))) (inner := [.int .u8 22, .int .i64 5, .int .i64 0, .int .i64 0, .int .i64 1, .int .u8 28, .int .i64 5, .int .i64 5, .int .i64 0, .int .i64 32]) (ok := fun _ => True) (okp := fun _ => True) ?hr ?hp (fun _ hk => hk) trivial (Below.refl _ _) (Nat.le_refl _) (by simp) ?_; (case hd => rfl); (case hg => rfl); (case hr => first | (go_simp; done) | (go_simp; rfl)); (case hp => exact (Reps.c5 (show Kd.M k33 _ _ _ (⟨22, 5, 0, 0, 1⟩ : S33) [.int .u8 22, .int .i64 5, .int .i64 0, .int .i64 0, .int .i64 1] from (k33_mkM _ _ _ (⟨22, 5, 0, 0, 1⟩ : S33) )) (Reps.c5 (show Kd.M k33 _ _ _ (⟨28, 5, 5, 0, 32⟩ : S33) [.int .u8 28, .int .i64 5, .int .i64 5, .int .i64 0, .int .i64 32] from (k33_mkM _ _ _ (⟨28, 5, 5, 0, 32⟩ : S33) )) (Reps.none _ _)))); intro v297 w14 ho15 hb hg_ hnew_; clear hg_ hnew_; (first | rw [← Ny296.out] at ho15 | (simp only [Int.reduceToNat] at ho15; rw [← Ny296.out] at ho15)); have n0_ := Aside0.mk (Kd.R_lower ho15 (below_size (by repeat (first | (with_reducible first | exact HB.out | apply below_alloc | apply pw_below_drewN | apply below_drew1) | exact HB.out)))); have n1_ := Aside0.mk (below_step (by repeat (first | (with_reducible first | exact HB.out | apply below_alloc | apply pw_below_drewN | apply below_drew1) | exact HB.out)) hb); clear HB; have HO298 := n0_; have HB := n1_; clear n0_ n1_; clear hb ho15; obtain ⟨Ao16, co16, eo16⟩ := Kd.R_slice HO298.out; subst eo16) | ((with_reducible refine gate_callee (f := 31) rfl ?_); refine goesL_ (some 12) rfl rfl Tryd.func31 (by kernel_rfl) rfl #[.int .i64 4294967296, .slice Ao16 y296.length co16] rfl (by (try simp only [List.map_toArray, List.map_cons, List.map_nil]); first | done | rfl | (simp only [List.length_drop, List.length_take]; rfl)) ?_; (with_reducible refine (quoinlaw18_is.calls k 4294967296 _ _ y296 true _ ?side1 ?side2 ?sideLN A1.out).mono ?_); (case sideLN => (repeat (first | exact HLN.out | (with_reducible refine LaidN.alloc ?_ _) | (with_reducible refine LaidN.drewN ?_ _) | (with_reducible refine LaidN.drew ?_) | (refine LaidN.below HLN.out ?_; repeat (first | (with_reducible first | exact HB.out | apply below_alloc | apply pw_below_drewN | apply below_drew1) | exact HB.out))))); (case side1 => repeat (first | exact (Kd.R_reads' HO298.out).2.2 | (with_reducible refine Kd.C_alloc ?_ _) | (with_reducible refine Kd.C_drewN ?_ _) | (with_reducible refine Kd.C_drew ?_))); (case side2 => exact (Kd.R_reads' HO298.out).2.1); rintro e w17 ⟨rfl, hb⟩; refine ⟨_, rfl, ?_⟩; have n0_ := Aside0.mk (Kd.R_below (by (with_reducible repeat (first | apply Kd.R_alloc | apply Kd.R_drewN | apply Kd.R_drew)); exact HO298.out) hb); have n1_ := Aside0.mk (below_step (by repeat (first | (with_reducible first | exact HB.out | apply below_alloc | apply pw_below_drewN | apply below_drew1) | exact HB.out)) hb); clear HO298; clear HB; have HO298 := n0_; have HB := n1_; clear n0_ n1_; (try clear hb); (try clear hb2); (try clear hk); (try clear hi)) | ((with_reducible refine gate_dst (N := 16) rfl ?_); refine Kd.R_lit k33 _ 33 ?hg (N := 16) ?hd (xs := ([(⟨22, 5, 0, 0, (-1)⟩ : S33), (⟨28, 5, 5, 0, 63⟩ : S33), (⟨22, 5, 5, 0, (-1)⟩ : S33)] : List (S33))) (inner := [.int .u8 22, .int .i64 5, .int .i64 0, .int .i64 0, .int .i64 (-1), .int .u8 28, .int .i64 5, .int .i64 5, .int .i64 0, .int .i64 63, .int .u8 22, .int .i64 5, .int .i64 5, .int .i64 0, .int .i64 (-1)]) (ok := fun _ => True) (okp := fun _ => True) ?hr ?hp (fun _ hk => hk) trivial (Below.refl _ _) (Nat.le_refl _) (by simp) ?_; (case hd => rfl); (case hg => rfl); (case hr => first | (go_simp; done) | (go_simp; rfl)); (case hp => exact (Reps.c5 (show Kd.M k33 _ _ _ (⟨22, 5, 0, 0, (-1)⟩ : S33) [.int .u8 22, .int .i64 5, .int .i64 0, .int .i64 0, .int .i64 (-1)] from (k33_mkM _ _ _ (⟨22, 5, 0, 0, (-1)⟩ : S33) )) (Reps.c5 (show Kd.M k33 _ _ _ (⟨28, 5, 5, 0, 63⟩ : S33) [.int .u8 28, .int .i64 5, .int .i64 5, .int .i64 0, .int .i64 63] from (k33_mkM _ _ _ (⟨28, 5, 5, 0, 63⟩ : S33) )) (Reps.c5 (show Kd.M k33 _ _ _ (⟨22, 5, 5, 0, (-1)⟩ : S33) [.int .u8 22, .int .i64 5, .int .i64 5, .int .i64 0, .int .i64 (-1)] from (k33_mkM _ _ _ (⟨22, 5, 5, 0, (-1)⟩ : S33) )) (Reps.none _ _))))); intro v301 w18 ho19 hb hg_ hnew_; clear hg_ hnew_; (first | rw [← Ny300.out] at ho19 | (simp only [Int.reduceToNat] at ho19; rw [← Ny300.out] at ho19)); have n0_ := Aside0.mk (Kd.R_elder' (by (with_reducible repeat (first | apply Kd.R_alloc | apply Kd.R_drewN | apply Kd.R_drew)); exact HO298.out) (Kd.R_base ho19) hb); have n1_ := Aside0.mk (Kd.R_lower (Kd.R_new' ho19 (Kd.R_lt (by (with_reducible repeat (first | apply Kd.R_alloc | apply Kd.R_drewN | apply Kd.R_drew)); exact HO298.out))) (below_size (by repeat (first | (with_reducible first | exact HB.out | apply below_alloc | apply pw_below_drewN | apply below_drew1) | exact HB.out)))); have n2_ := Aside0.mk (below_step (by repeat (first | (with_reducible first | exact HB.out | apply below_alloc | apply pw_below_drewN | apply below_drew1) | exact HB.out)) hb); clear HO298; clear HB; have HO298 := n0_; have HO302 := n1_; have HB := n2_; clear n0_ n1_ n2_; clear hb ho19; obtain ⟨Ao20, co20, eo20⟩ := Kd.R_slice HO302.out; subst eo20) | ((with_reducible refine gate_callee (f := 31) rfl ?_); refine goesL_ (some 17) rfl rfl Tryd.func31 (by kernel_rfl) rfl #[.int .i64 9223372036854775807, .slice Ao20 y300.length co20] rfl (by (try simp only [List.map_toArray, List.map_cons, List.map_nil]); first | done | rfl | (simp only [List.length_drop, List.length_take]; rfl)) ?_; (with_reducible refine (quoinlaw18_is.calls k 9223372036854775807 _ _ y300 true _ ?side1 ?side2 ?sideLN A2.out).mono ?_); (case sideLN => (repeat (first | exact HLN.out | (with_reducible refine LaidN.alloc ?_ _) | (with_reducible refine LaidN.drewN ?_ _) | (with_reducible refine LaidN.drew ?_) | (refine LaidN.below HLN.out ?_; repeat (first | (with_reducible first | exact HB.out | apply below_alloc | apply pw_below_drewN | apply below_drew1) | exact HB.out))))); (case side1 => repeat (first | exact (Kd.R_reads' HO302.out).2.2 | (with_reducible refine Kd.C_alloc ?_ _) | (with_reducible refine Kd.C_drewN ?_ _) | (with_reducible refine Kd.C_drew ?_))); (case side2 => exact (Kd.R_reads' HO302.out).2.1); rintro e w21 ⟨rfl, hb⟩; refine ⟨_, rfl, ?_⟩; have n0_ := Aside0.mk (Kd.R_below (by (with_reducible repeat (first | apply Kd.R_alloc | apply Kd.R_drewN | apply Kd.R_drew)); exact HO298.out) hb); have n1_ := Aside0.mk (Kd.R_below (by (with_reducible repeat (first | apply Kd.R_alloc | apply Kd.R_drewN | apply Kd.R_drew)); exact HO302.out) hb); have n2_ := Aside0.mk (below_step (by repeat (first | (with_reducible first | exact HB.out | apply below_alloc | apply pw_below_drewN | apply below_drew1) | exact HB.out)) hb); clear HO298; clear HO302; clear HB; have HO298 := n0_; have HO302 := n1_; have HB := n2_; clear n0_ n1_ n2_; (try clear hb); (try clear hb2); (try clear hk); (try clear hi)) | ((with_reducible refine gate_callee (f := 32) rfl ?_); refine goesL_ (some 19) rfl rfl Tryd.func32 (by kernel_rfl) rfl #[.int .i64 4095] rfl (by (try simp only [List.map_toArray, List.map_cons, List.map_nil]); first | done | rfl | (simp only [List.length_drop, List.length_take]; rfl)) ?_; (with_reducible refine (li_Parts.calls 4095 t304 t305 _ A3.out).mono ?_); rintro e w' ⟨rfl, ⟨nd, rfl⟩⟩; refine ⟨_, rfl, ?_⟩) | ((with_reducible refine gate_callee (f := 32) rfl ?_); refine goesL_ (some 23) rfl rfl Tryd.func32 (by kernel_rfl) rfl #[.int .i64 (-2049)] rfl (by (try simp only [List.map_toArray, List.map_cons, List.map_nil]); first | done | rfl | (simp only [List.length_drop, List.length_take]; rfl)) ?_; (with_reducible refine (li_Parts.calls (-2049) t306 t307 _ A4.out).mono ?_); rintro e w' ⟨rfl, ⟨nd, rfl⟩⟩; refine ⟨_, rfl, ?_⟩) | ((with_reducible refine gate_callee (f := 33) rfl ?_); refine goesL_ (some 27) rfl rfl Tryd.func33 (by kernel_rfl) rfl #[.int .i64 32, .int .i64 0] rfl (by (try simp only [List.map_toArray, List.map_cons, List.map_nil]); first | done | rfl | (simp only [List.length_drop, List.length_take]; rfl)) ?_; (with_reducible refine (li_Steps.calls k 32 0 t308 t309 _ ?sideLN A5.out).mono ?_); (case sideLN => (repeat (first | exact HLN.out | (with_reducible refine LaidN.alloc ?_ _) | (with_reducible refine LaidN.drewN ?_ _) | (with_reducible refine LaidN.drew ?_) | (refine LaidN.below HLN.out ?_; repeat (first | (with_reducible first | exact HB.out | apply below_alloc | apply pw_below_drewN | apply below_drew1) | exact HB.out))))); rintro e w22 ⟨v310, rfl, ho0, hb⟩; refine ⟨_, rfl, ?_⟩; have n0_ := Aside0.mk (Kd.R_elder' (by (with_reducible repeat (first | apply Kd.R_alloc | apply Kd.R_drewN | apply Kd.R_drew)); exact HO298.out) (Kd.R_base ho0) hb); have n1_ := Aside0.mk (Kd.R_elder' (by (with_reducible repeat (first | apply Kd.R_alloc | apply Kd.R_drewN | apply Kd.R_drew)); exact HO302.out) (Kd.R_base ho0) hb); have n2_ := Aside0.mk (Kd.R_lower (Kd.R_new' (Kd.R_new' ho0 (Kd.R_lt (by (with_reducible repeat (first | apply Kd.R_alloc | apply Kd.R_drewN | apply Kd.R_drew)); exact HO298.out))) (Kd.R_lt (by (with_reducible repeat (first | apply Kd.R_alloc | apply Kd.R_drewN | apply Kd.R_drew)); exact HO302.out))) (below_size (by repeat (first | (with_reducible first | exact HB.out | apply below_alloc | apply pw_below_drewN | apply below_drew1) | exact HB.out)))); have n3_ := Aside0.mk (below_step (by repeat (first | (with_reducible first | exact HB.out | apply below_alloc | apply pw_below_drewN | apply below_drew1) | exact HB.out)) hb); clear HO298; clear HO302; clear HB; have HO298 := n0_; have HO302 := n1_; have HO311 := n2_; have HB := n3_; clear n0_ n1_ n2_ n3_; (try clear hb); (try clear hb2); (try clear hk); (try clear hi); (try clear ho0)) | ((with_reducible refine gate_callee (f := 34) rfl ?_); refine goesL_ (some 30) rfl rfl Tryd.func34 (by kernel_rfl) rfl #[] rfl (by (try simp only [List.map_toArray, List.map_cons, List.map_nil]); first | done | rfl | (simp only [List.length_drop, List.length_take]; rfl)) ?_; (with_reducible refine (quoinlaw18_alive.calls k  true _ ?sideLN A6.out).mono ?_); (case sideLN => (repeat (first | exact HLN.out | (with_reducible refine LaidN.alloc ?_ _) | (with_reducible refine LaidN.drewN ?_ _) | (with_reducible refine LaidN.drew ?_) | (refine LaidN.below HLN.out ?_; repeat (first | (with_reducible first | exact HB.out | apply below_alloc | apply pw_below_drewN | apply below_drew1) | exact HB.out))))); rintro e w23 ⟨rfl, hb⟩; refine ⟨_, rfl, ?_⟩; have n0_ := Aside0.mk (Kd.R_below (by (with_reducible repeat (first | apply Kd.R_alloc | apply Kd.R_drewN | apply Kd.R_drew)); exact HO298.out) hb); have n1_ := Aside0.mk (Kd.R_below (by (with_reducible repeat (first | apply Kd.R_alloc | apply Kd.R_drewN | apply Kd.R_drew)); exact HO302.out) hb); have n2_ := Aside0.mk (Kd.R_below (by (with_reducible repeat (first | apply Kd.R_alloc | apply Kd.R_drewN | apply Kd.R_drew)); exact HO311.out) hb); have n3_ := Aside0.mk (below_step (by repeat (first | (with_reducible first | exact HB.out | apply below_alloc | apply pw_below_drewN | apply below_drew1) | exact HB.out)) hb); clear HO298; clear HO302; clear HO311; clear HB; have HO298 := n0_; have HO302 := n1_; have HO311 := n2_; have HB := n3_; clear n0_ n1_ n2_ n3_; (try clear hb); (try clear hb2); (try clear hk); (try clear hi)))
                go_ret
                exact ⟨by first | rfl | (simp [errW_none, errW_some] <;> rfl) | (simp [*, errW_none, errW_some] <;> rfl), by repeat (first | (with_reducible first | exact HB.out | apply below_alloc | apply pw_below_drewN | apply below_drew1) | exact HB.out)⟩
              · rw [if_neg c13] at H
                exact absurd H (by simp)
            · rw [if_neg c12] at H
              exact absurd H (by simp)
          · rw [if_neg c11] at H
            exact absurd H (by simp)
        · rw [if_neg c10] at H
          exact absurd H (by simp)
      · replace c9 := Bool.eq_false_iff.mpr c9
        subst c9
        have H1 : (none) = some r := by rw [if_neg (show ¬ (false = true) by decide)] at H; exact H
        clear H
        have H := H1
        clear H1
        exact absurd H (by simp)
    · replace c8 := Bool.eq_false_iff.mpr c8
      subst c8
      have H1 : (none) = some r := by rw [if_neg (show ¬ (false = true) by decide)] at H; exact H
      clear H
      have H := H1
      clear H1
      exact absurd H (by simp)
  · replace c7 := Bool.eq_false_iff.mpr c7
    subst c7
    have H1 : (none) = some r := by rw [if_neg (show ¬ (false = true) by decide)] at H; exact H
    clear H
    have H := H1
    clear H1
    exact absurd H (by simp)

end Go.Proofs.YtpijiohiohiilaaDoor.D
