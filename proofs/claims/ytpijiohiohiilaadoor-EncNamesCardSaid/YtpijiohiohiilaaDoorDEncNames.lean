/- Walks and rows of the laws of quoin: each Lean function here tells just what the Go function of its name answers. Conditions: none but those that a row itself names. Written by a program of this session (wip/reprint.py) over the kit print, and turned by it. -/
import Derived.Test.YtpijiohiohiilaaDoorD0
import Derived.Test.YtpijiohiohiilaaDoorDEnc
import Derived.Test.YtpijiohiohiilaaDoorDQuoinlaw03
import Derived.Test.YtpijiohiohiilaaDoorGEnc
namespace Go.Proofs.YtpijiohiohiilaaDoor.D
open Go.RowKit Go.Proofs.YtpijiohiohiilaaDoorW.PrintWords Go.Proofs.YtpijiohiohiilaaDoorW.PrintLast Go.Proofs.YtpijiohiohiilaaDoorW.PrintMore
attribute [local go_sem] max2_int min2_int max_two min_two max_three min_three max_four min_four   -- for this text's walks alone
set_option linter.unusedVariables false
set_option linter.unusedSimpArgs false

/-! ### quoinlaw03_EncNames: function 15 -/
def quoinlaw03_EncNames.f (k : Nat)  : Option (Bool) := (enc_Base.f 0).bind fun bt549 => ((enc_Places.f k 120).bind fun bt551 => ((enc_Word.f k 0 0 0 0 0).bind fun bt555 => ((quoinlaw03_alive.f k).bind fun t557 => (if t557 = true then ((quoinlaw03_is.f k 5 0 1 2 (-4) 4263546595).bind fun t558 => (if t558 = true then ((quoinlaw03_is.f k 3 1 0 0 2048 1048815).bind fun t559 => (if t559 = true then ((quoinlaw03_is.f k 21 0 1 2 8 2143267).bind fun t560 => (if t560 = true then ((quoinlaw03_is.f k 66 0 0 0 0 1048691).bind fun t561 => (if t561 = true then (if bt549.2 = 2 then (if bt551.2 = 2 then (some (bt555.2 == 20)) else (none)) else (none)) else (none))) else (none))) else (none))) else (none))) else (none)))))
theorem quoinlaw03_EncNames.mono : ∀ k, LeO (quoinlaw03_EncNames.f k ) (quoinlaw03_EncNames.f (k + 1) ) := by
  intro  k
  unfold quoinlaw03_EncNames.f
  repeat' first
      | (with_reducible exact enc_Places.mono _ _)
      | (with_reducible exact enc_Word.mono _ _ _ _ _ _)
      | (with_reducible exact quoinlaw03_alive.mono _)
      | (with_reducible exact quoinlaw03_is.mono _ _ _ _ _ _ _)
      | (with_reducible exact LeO.refl _)
      | (with_reducible exact LeO.none _)
      | (with_reducible refine LeO.ite ?_ ?_)
      | (with_reducible refine LeO.bind ?_ (fun _ => ?_))
      | exact enc_Places.mono _ _
      | exact enc_Word.mono _ _ _ _ _ _
      | exact quoinlaw03_alive.mono _
      | exact quoinlaw03_is.mono _ _ _ _ _ _ _
      | exact LeO.none _
      | refine LeO.ite ?_ ?_
      | refine LeO.bind ?_ (fun _ => ?_)
set_option maxHeartbeats 8000000 in
set_option maxRecDepth 100000 in
theorem quoinlaw03_EncNames.calls (k : Nat)  (r : Bool) (w : World) (hB : LaidB w) (h : quoinlaw03_EncNames.f k  = some r) :
    Calls Tryd.prog 15 #[] w fun e w' => e = .returned (.bool r) ∧ Below w.heap.size w w' := by
  have HLB := Aside0.mk hB
  clear hB
  have hu33 := Tryd.underlying33
  have HB := Aside0.mk (Below.refl w.heap.size w)
  have H : ((enc_Base.f 0).bind fun bt549 => ((enc_Places.f k 120).bind fun bt551 => ((enc_Word.f k 0 0 0 0 0).bind fun bt555 => ((quoinlaw03_alive.f k).bind fun t557 => (if t557 = true then ((quoinlaw03_is.f k 5 0 1 2 (-4) 4263546595).bind fun t558 => (if t558 = true then ((quoinlaw03_is.f k 3 1 0 0 2048 1048815).bind fun t559 => (if t559 = true then ((quoinlaw03_is.f k 21 0 1 2 8 2143267).bind fun t560 => (if t560 = true then ((quoinlaw03_is.f k 66 0 0 0 0 1048691).bind fun t561 => (if t561 = true then (if bt549.2 = 2 then (if bt551.2 = 2 then (some (bt555.2 == 20)) else (none)) else (none)) else (none))) else (none))) else (none))) else (none))) else (none)))))) = some r := h
  clear h
  replace H := Option.bind_eq_some_iff.mp H
  obtain ⟨⟨t549, t550⟩, A10, H⟩ := H
  replace H : ((enc_Places.f k 120).bind fun bt551 => ((enc_Word.f k 0 0 0 0 0).bind fun bt555 => ((quoinlaw03_alive.f k).bind fun t557 => (if t557 = true then ((quoinlaw03_is.f k 5 0 1 2 (-4) 4263546595).bind fun t558 => (if t558 = true then ((quoinlaw03_is.f k 3 1 0 0 2048 1048815).bind fun t559 => (if t559 = true then ((quoinlaw03_is.f k 21 0 1 2 8 2143267).bind fun t560 => (if t560 = true then ((quoinlaw03_is.f k 66 0 0 0 0 1048691).bind fun t561 => (if t561 = true then (if t550 = 2 then (if bt551.2 = 2 then (some (bt555.2 == 20)) else (none)) else (none)) else (none))) else (none))) else (none))) else (none))) else (none))))) = some r := H
  have A1 := Aside0.mk A10
  clear A10
  replace H := Option.bind_eq_some_iff.mp H
  obtain ⟨⟨t551, t552⟩, A20, H⟩ := H
  replace H : ((enc_Word.f k 0 0 0 0 0).bind fun bt555 => ((quoinlaw03_alive.f k).bind fun t557 => (if t557 = true then ((quoinlaw03_is.f k 5 0 1 2 (-4) 4263546595).bind fun t558 => (if t558 = true then ((quoinlaw03_is.f k 3 1 0 0 2048 1048815).bind fun t559 => (if t559 = true then ((quoinlaw03_is.f k 21 0 1 2 8 2143267).bind fun t560 => (if t560 = true then ((quoinlaw03_is.f k 66 0 0 0 0 1048691).bind fun t561 => (if t561 = true then (if t550 = 2 then (if t552 = 2 then (some (bt555.2 == 20)) else (none)) else (none)) else (none))) else (none))) else (none))) else (none))) else (none)))) = some r := H
  have A2 := Aside0.mk A20
  clear A20
  replace H := Option.bind_eq_some_iff.mp H
  obtain ⟨⟨t555, t556⟩, A30, H⟩ := H
  replace H : ((quoinlaw03_alive.f k).bind fun t557 => (if t557 = true then ((quoinlaw03_is.f k 5 0 1 2 (-4) 4263546595).bind fun t558 => (if t558 = true then ((quoinlaw03_is.f k 3 1 0 0 2048 1048815).bind fun t559 => (if t559 = true then ((quoinlaw03_is.f k 21 0 1 2 8 2143267).bind fun t560 => (if t560 = true then ((quoinlaw03_is.f k 66 0 0 0 0 1048691).bind fun t561 => (if t561 = true then (if t550 = 2 then (if t552 = 2 then (some (t556 == 20)) else (none)) else (none)) else (none))) else (none))) else (none))) else (none))) else (none))) = some r := H
  have A3 := Aside0.mk A30
  clear A30
  replace H := Option.bind_eq_some_iff.mp H
  obtain ⟨t557, A40, H⟩ := H
  replace H : (if t557 = true then ((quoinlaw03_is.f k 5 0 1 2 (-4) 4263546595).bind fun t558 => (if t558 = true then ((quoinlaw03_is.f k 3 1 0 0 2048 1048815).bind fun t559 => (if t559 = true then ((quoinlaw03_is.f k 21 0 1 2 8 2143267).bind fun t560 => (if t560 = true then ((quoinlaw03_is.f k 66 0 0 0 0 1048691).bind fun t561 => (if t561 = true then (if t550 = 2 then (if t552 = 2 then (some (t556 == 20)) else (none)) else (none)) else (none))) else (none))) else (none))) else (none))) else (none)) = some r := H
  have A4 := Aside0.mk A40
  clear A40
  by_cases c5 : t557 = true
  · subst c5
    have H1 : ((quoinlaw03_is.f k 5 0 1 2 (-4) 4263546595).bind fun t558 => (if t558 = true then ((quoinlaw03_is.f k 3 1 0 0 2048 1048815).bind fun t559 => (if t559 = true then ((quoinlaw03_is.f k 21 0 1 2 8 2143267).bind fun t560 => (if t560 = true then ((quoinlaw03_is.f k 66 0 0 0 0 1048691).bind fun t561 => (if t561 = true then (if t550 = 2 then (if t552 = 2 then (some (t556 == 20)) else (none)) else (none)) else (none))) else (none))) else (none))) else (none))) = some r := by rw [if_pos rfl] at H; exact H
    clear H
    have H := H1
    clear H1
    replace H := Option.bind_eq_some_iff.mp H
    obtain ⟨t558, A60, H⟩ := H
    replace H : (if t558 = true then ((quoinlaw03_is.f k 3 1 0 0 2048 1048815).bind fun t559 => (if t559 = true then ((quoinlaw03_is.f k 21 0 1 2 8 2143267).bind fun t560 => (if t560 = true then ((quoinlaw03_is.f k 66 0 0 0 0 1048691).bind fun t561 => (if t561 = true then (if t550 = 2 then (if t552 = 2 then (some (t556 == 20)) else (none)) else (none)) else (none))) else (none))) else (none))) else (none)) = some r := H
    have A6 := Aside0.mk A60
    clear A60
    by_cases c7 : t558 = true
    · subst c7
      have H1 : ((quoinlaw03_is.f k 3 1 0 0 2048 1048815).bind fun t559 => (if t559 = true then ((quoinlaw03_is.f k 21 0 1 2 8 2143267).bind fun t560 => (if t560 = true then ((quoinlaw03_is.f k 66 0 0 0 0 1048691).bind fun t561 => (if t561 = true then (if t550 = 2 then (if t552 = 2 then (some (t556 == 20)) else (none)) else (none)) else (none))) else (none))) else (none))) = some r := by rw [if_pos rfl] at H; exact H
      clear H
      have H := H1
      clear H1
      replace H := Option.bind_eq_some_iff.mp H
      obtain ⟨t559, A80, H⟩ := H
      replace H : (if t559 = true then ((quoinlaw03_is.f k 21 0 1 2 8 2143267).bind fun t560 => (if t560 = true then ((quoinlaw03_is.f k 66 0 0 0 0 1048691).bind fun t561 => (if t561 = true then (if t550 = 2 then (if t552 = 2 then (some (t556 == 20)) else (none)) else (none)) else (none))) else (none))) else (none)) = some r := H
      have A8 := Aside0.mk A80
      clear A80
      by_cases c9 : t559 = true
      · subst c9
        have H1 : ((quoinlaw03_is.f k 21 0 1 2 8 2143267).bind fun t560 => (if t560 = true then ((quoinlaw03_is.f k 66 0 0 0 0 1048691).bind fun t561 => (if t561 = true then (if t550 = 2 then (if t552 = 2 then (some (t556 == 20)) else (none)) else (none)) else (none))) else (none))) = some r := by rw [if_pos rfl] at H; exact H
        clear H
        have H := H1
        clear H1
        replace H := Option.bind_eq_some_iff.mp H
        obtain ⟨t560, A100, H⟩ := H
        replace H : (if t560 = true then ((quoinlaw03_is.f k 66 0 0 0 0 1048691).bind fun t561 => (if t561 = true then (if t550 = 2 then (if t552 = 2 then (some (t556 == 20)) else (none)) else (none)) else (none))) else (none)) = some r := H
        have A10 := Aside0.mk A100
        clear A100
        by_cases c11 : t560 = true
        · subst c11
          have H1 : ((quoinlaw03_is.f k 66 0 0 0 0 1048691).bind fun t561 => (if t561 = true then (if t550 = 2 then (if t552 = 2 then (some (t556 == 20)) else (none)) else (none)) else (none))) = some r := by rw [if_pos rfl] at H; exact H
          clear H
          have H := H1
          clear H1
          replace H := Option.bind_eq_some_iff.mp H
          obtain ⟨t561, A120, H⟩ := H
          replace H : (if t561 = true then (if t550 = 2 then (if t552 = 2 then (some (t556 == 20)) else (none)) else (none)) else (none)) = some r := H
          have A12 := Aside0.mk A120
          clear A120
          by_cases c13 : t561 = true
          · subst c13
            have H1 : (if t550 = 2 then (if t552 = 2 then (some (t556 == 20)) else (none)) else (none)) = some r := by rw [if_pos rfl] at H; exact H
            clear H
            have H := H1
            clear H1
            by_cases c14 : t550 = 2
            · rw [if_pos c14] at H
              have c14b0 : (t550 == 2) = true := beq_iff_eq.mpr c14
              have c14b1 : (t550 != 2) = false := bne_eq_false_iff_eq.mpr c14
              clear c14
              by_cases c15 : t552 = 2
              · rw [if_pos c15] at H
                have c15b0 : (t552 == 2) = true := beq_iff_eq.mpr c15
                have c15b1 : (t552 != 2) = false := bne_eq_false_iff_eq.mpr c15
                clear c15
                obtain rfl := Option.some.inj H
                go_enter Tryd.func15, Tryd.ntmps15
                go_wp2_with (first | ((with_reducible refine gate_callee (f := 30) rfl ?_); refine goesL_ (some 8) rfl rfl Tryd.func30 (by kernel_rfl) rfl #[.int .u8 0] rfl (by (try simp only [List.map_toArray, List.map_cons, List.map_nil]); first | done | rfl | (simp only [List.length_drop, List.length_take]; rfl)) ?_; (with_reducible refine (enc_Base.calls 0 t549 t550 _ ?sideLB A1.out).mono ?_); (case sideLB => (repeat (first | exact HLB.out | (with_reducible refine LaidB.alloc ?_ _) | (with_reducible refine LaidB.drewN ?_ _) | (with_reducible refine LaidB.drew ?_) | (refine LaidB.below HLB.out ?_; repeat (first | (with_reducible first | exact HB.out | apply below_alloc | apply pw_below_drewN | apply below_drew1) | exact HB.out))))); rintro e w' ⟨rfl, ⟨nd, rfl⟩⟩; refine ⟨_, rfl, ?_⟩) | ((with_reducible refine gate_callee (f := 43) rfl ?_); refine goesL_ (some 12) rfl rfl Tryd.func43 (by kernel_rfl) rfl #[.int .u8 120] rfl (by (try simp only [List.map_toArray, List.map_cons, List.map_nil]); first | done | rfl | (simp only [List.length_drop, List.length_take]; rfl)) ?_; (with_reducible refine (enc_Places.calls k 120 t551 t552 _ A2.out).mono ?_); rintro e w16 ⟨v553, rfl, ho0, hb⟩; refine ⟨_, rfl, ?_⟩; have n0_ := Aside0.mk (Kd.R_lower ho0 (below_size (by repeat (first | (with_reducible first | exact HB.out | apply below_alloc | apply pw_below_drewN | apply below_drew1) | exact HB.out)))); have n1_ := Aside0.mk (below_step (by repeat (first | (with_reducible first | exact HB.out | apply below_alloc | apply pw_below_drewN | apply below_drew1) | exact HB.out)) hb); clear HB; have HO554 := n0_; have HB := n1_; clear n0_ n1_; (try clear hb); (try clear hb2); (try clear hk); (try clear hi); (try clear ho0)) | ((with_reducible refine gate_callee (f := 26) rfl ?_); refine goesL_ (some 17) rfl rfl Tryd.func26 (by kernel_rfl) rfl #[.agg #[.int .u8 0, .int .i64 0, .int .i64 0, .int .i64 0, .int .i64 0]] rfl (by (try simp only [List.map_toArray, List.map_cons, List.map_nil]); first | done | rfl | (simp only [List.length_drop, List.length_take]; rfl)) ?_; (with_reducible refine (enc_Word.calls k 0 0 0 0 0 t555 t556 _ ?sideLB A3.out).mono ?_); (case sideLB => (repeat (first | exact HLB.out | (with_reducible refine LaidB.alloc ?_ _) | (with_reducible refine LaidB.drewN ?_ _) | (with_reducible refine LaidB.drew ?_) | (refine LaidB.below HLB.out ?_; repeat (first | (with_reducible first | exact HB.out | apply below_alloc | apply pw_below_drewN | apply below_drew1) | exact HB.out))))); rintro e w17 ⟨rfl, hb⟩; refine ⟨_, rfl, ?_⟩; have n0_ := Aside0.mk (Kd.R_below (by (with_reducible repeat (first | apply Kd.R_alloc | apply Kd.R_drewN | apply Kd.R_drew)); exact HO554.out) hb); have n1_ := Aside0.mk (below_step (by repeat (first | (with_reducible first | exact HB.out | apply below_alloc | apply pw_below_drewN | apply below_drew1) | exact HB.out)) hb); clear HO554; clear HB; have HO554 := n0_; have HB := n1_; clear n0_ n1_; (try clear hb); (try clear hb2); (try clear hk); (try clear hi)) | ((with_reducible refine gate_callee (f := 44) rfl ?_); refine goesL_ (some 20) rfl rfl Tryd.func44 (by kernel_rfl) rfl #[] rfl (by (try simp only [List.map_toArray, List.map_cons, List.map_nil]); first | done | rfl | (simp only [List.length_drop, List.length_take]; rfl)) ?_; (with_reducible refine (quoinlaw03_alive.calls k  true _ ?sideLB A4.out).mono ?_); (case sideLB => (repeat (first | exact HLB.out | (with_reducible refine LaidB.alloc ?_ _) | (with_reducible refine LaidB.drewN ?_ _) | (with_reducible refine LaidB.drew ?_) | (refine LaidB.below HLB.out ?_; repeat (first | (with_reducible first | exact HB.out | apply below_alloc | apply pw_below_drewN | apply below_drew1) | exact HB.out))))); rintro e w18 ⟨rfl, hb⟩; refine ⟨_, rfl, ?_⟩; have n0_ := Aside0.mk (Kd.R_below (by (with_reducible repeat (first | apply Kd.R_alloc | apply Kd.R_drewN | apply Kd.R_drew)); exact HO554.out) hb); have n1_ := Aside0.mk (below_step (by repeat (first | (with_reducible first | exact HB.out | apply below_alloc | apply pw_below_drewN | apply below_drew1) | exact HB.out)) hb); clear HO554; clear HB; have HO554 := n0_; have HB := n1_; clear n0_ n1_; (try clear hb); (try clear hb2); (try clear hk); (try clear hi)) | (go_at_call 45; (with_reducible refine (quoinlaw03_is.calls k 5 0 1 2 (-4) 4263546595 true _ ?sideLB A6.out).mono ?_); (case sideLB => (repeat (first | exact HLB.out | (with_reducible refine LaidB.alloc ?_ _) | (with_reducible refine LaidB.drewN ?_ _) | (with_reducible refine LaidB.drew ?_) | (refine LaidB.below HLB.out ?_; repeat (first | (with_reducible first | exact HB.out | apply below_alloc | apply pw_below_drewN | apply below_drew1) | exact HB.out))))); rintro e w19 ⟨rfl, hb⟩; have n0_ := Aside0.mk (Kd.R_below (by (with_reducible repeat (first | apply Kd.R_alloc | apply Kd.R_drewN | apply Kd.R_drew)); exact HO554.out) hb); have n1_ := Aside0.mk (below_step (by repeat (first | (with_reducible first | exact HB.out | apply below_alloc | apply pw_below_drewN | apply below_drew1) | exact HB.out)) hb); clear HO554; clear HB; have HO554 := n0_; have HB := n1_; clear n0_ n1_; (try clear hb); (try clear hb2); (try clear hk); (try clear hi)) | (go_at_call 45; (with_reducible refine (quoinlaw03_is.calls k 3 1 0 0 2048 1048815 true _ ?sideLB A8.out).mono ?_); (case sideLB => (repeat (first | exact HLB.out | (with_reducible refine LaidB.alloc ?_ _) | (with_reducible refine LaidB.drewN ?_ _) | (with_reducible refine LaidB.drew ?_) | (refine LaidB.below HLB.out ?_; repeat (first | (with_reducible first | exact HB.out | apply below_alloc | apply pw_below_drewN | apply below_drew1) | exact HB.out))))); rintro e w20 ⟨rfl, hb⟩; have n0_ := Aside0.mk (Kd.R_below (by (with_reducible repeat (first | apply Kd.R_alloc | apply Kd.R_drewN | apply Kd.R_drew)); exact HO554.out) hb); have n1_ := Aside0.mk (below_step (by repeat (first | (with_reducible first | exact HB.out | apply below_alloc | apply pw_below_drewN | apply below_drew1) | exact HB.out)) hb); clear HO554; clear HB; have HO554 := n0_; have HB := n1_; clear n0_ n1_; (try clear hb); (try clear hb2); (try clear hk); (try clear hi)) | (go_at_call 45; (with_reducible refine (quoinlaw03_is.calls k 21 0 1 2 8 2143267 true _ ?sideLB A10.out).mono ?_); (case sideLB => (repeat (first | exact HLB.out | (with_reducible refine LaidB.alloc ?_ _) | (with_reducible refine LaidB.drewN ?_ _) | (with_reducible refine LaidB.drew ?_) | (refine LaidB.below HLB.out ?_; repeat (first | (with_reducible first | exact HB.out | apply below_alloc | apply pw_below_drewN | apply below_drew1) | exact HB.out))))); rintro e w21 ⟨rfl, hb⟩; have n0_ := Aside0.mk (Kd.R_below (by (with_reducible repeat (first | apply Kd.R_alloc | apply Kd.R_drewN | apply Kd.R_drew)); exact HO554.out) hb); have n1_ := Aside0.mk (below_step (by repeat (first | (with_reducible first | exact HB.out | apply below_alloc | apply pw_below_drewN | apply below_drew1) | exact HB.out)) hb); clear HO554; clear HB; have HO554 := n0_; have HB := n1_; clear n0_ n1_; (try clear hb); (try clear hb2); (try clear hk); (try clear hi)) | (go_at_call 45; (with_reducible refine (quoinlaw03_is.calls k 66 0 0 0 0 1048691 true _ ?sideLB A12.out).mono ?_); (case sideLB => (repeat (first | exact HLB.out | (with_reducible refine LaidB.alloc ?_ _) | (with_reducible refine LaidB.drewN ?_ _) | (with_reducible refine LaidB.drew ?_) | (refine LaidB.below HLB.out ?_; repeat (first | (with_reducible first | exact HB.out | apply below_alloc | apply pw_below_drewN | apply below_drew1) | exact HB.out))))); rintro e w22 ⟨rfl, hb⟩; have n0_ := Aside0.mk (Kd.R_below (by (with_reducible repeat (first | apply Kd.R_alloc | apply Kd.R_drewN | apply Kd.R_drew)); exact HO554.out) hb); have n1_ := Aside0.mk (below_step (by repeat (first | (with_reducible first | exact HB.out | apply below_alloc | apply pw_below_drewN | apply below_drew1) | exact HB.out)) hb); clear HO554; clear HB; have HO554 := n0_; have HB := n1_; clear n0_ n1_; (try clear hb); (try clear hb2); (try clear hk); (try clear hi)))
                go_ret
                exact ⟨by first | rfl | (simp [errW_none, errW_some] <;> rfl) | (simp [*, errW_none, errW_some] <;> rfl), by repeat (first | (with_reducible first | exact HB.out | apply below_alloc | apply pw_below_drewN | apply below_drew1) | exact HB.out)⟩
              · rw [if_neg c15] at H
                exact absurd H (by simp)
            · rw [if_neg c14] at H
              exact absurd H (by simp)
          · replace c13 := Bool.eq_false_iff.mpr c13
            subst c13
            have H1 : (none) = some r := by rw [if_neg (show ¬ (false = true) by decide)] at H; exact H
            clear H
            have H := H1
            clear H1
            exact absurd H (by simp)
        · replace c11 := Bool.eq_false_iff.mpr c11
          subst c11
          have H1 : (none) = some r := by rw [if_neg (show ¬ (false = true) by decide)] at H; exact H
          clear H
          have H := H1
          clear H1
          exact absurd H (by simp)
      · replace c9 := Bool.eq_false_iff.mpr c9
        subst c9
        have H1 : (none) = some r := by rw [if_neg (show ¬ (false = true) by decide)] at H; exact H
        clear H
        have H := H1
        clear H1
        exact absurd H (by simp)
    · replace c7 := Bool.eq_false_iff.mpr c7
      subst c7
      have H1 : (none) = some r := by rw [if_neg (show ¬ (false = true) by decide)] at H; exact H
      clear H
      have H := H1
      clear H1
      exact absurd H (by simp)
  · replace c5 := Bool.eq_false_iff.mpr c5
    subst c5
    have H1 : (none) = some r := by rw [if_neg (show ¬ (false = true) by decide)] at H; exact H
    clear H
    have H := H1
    clear H1
    exact absurd H (by simp)

end Go.Proofs.YtpijiohiohiilaaDoor.D
