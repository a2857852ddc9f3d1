/- Walks and rows of the laws of quoin: each Lean function here tells just what the Go function of its name answers. Conditions: none but those that a row itself names. Written by a program of this session (wip/reprint.py) over the kit print, and turned by it. -/
import Derived.Test.YtpijiohiohiilaaDoorD0
import Derived.Test.YtpijiohiohiilaaDoorDEnc
import Derived.Test.YtpijiohiohiilaaDoorDQuoinref01
import Derived.Test.YtpijiohiohiilaaDoorDQuoinref03
import Derived.Test.YtpijiohiohiilaaDoorGEnc
namespace Go.Proofs.YtpijiohiohiilaaDoor.D
open Go.RowKit Go.Proofs.YtpijiohiohiilaaDoorW.PrintWords Go.Proofs.YtpijiohiohiilaaDoorW.PrintLast Go.Proofs.YtpijiohiohiilaaDoorW.PrintMore
attribute [local go_sem] max2_int min2_int max_two min_two max_three min_three max_four min_four   -- for this text's walks alone
set_option linter.unusedVariables false
set_option linter.unusedSimpArgs false

/-! ### quoinlaw03_EncTells: function 16 -/
def quoinlaw03_EncTells.f (k : Nat) (a0_0 : Int) (a0_1 : Int) (a0_2 : Int) (a0_3 : Int) (a0_4 : Int) (a1 : Int) (a2 : Int) : Option (Bool) := (enc_Word.f k a0_0 a0_1 a0_2 a0_3 a0_4).bind fun bt588 => ((quoinref03_Word.f k a0_0 a0_1 a0_2 a0_3 a0_4).bind fun bt590 => ((enc_Base.f a1).bind fun bt592 => ((quoinref03_Base.f k a1).bind fun bt594 => ((enc_Places.f k a2).bind fun bt596 => ((quoinref03_Places.f k a2).bind fun bt600 => (if bt588.1 = bt590.1 then (if bt588.2 = bt590.2 then (if bt592.1 = bt594.1 then (if bt592.2 = bt594.2 then ((quoinref01_Same.f k bt596.1 bt600.1).bind fun t604 => (if t604 = true then (some (bt596.2 == bt600.2)) else (none))) else (none)) else (none)) else (none)) else (none)))))))
theorem quoinlaw03_EncTells.mono : ∀ a0 a1 a2 a3 a4 a5 a6 k, LeO (quoinlaw03_EncTells.f k a0 a1 a2 a3 a4 a5 a6) (quoinlaw03_EncTells.f (k + 1) a0 a1 a2 a3 a4 a5 a6) := by
 intro a0 a1 a2 a3 a4 a5 a6 k
 unfold quoinlaw03_EncTells.f
 repeat' first
   | (with_reducible exact enc_Places.mono _ _)
   | (with_reducible exact enc_Word.mono _ _ _ _ _ _)
   | (with_reducible exact quoinref01_Same.mono _ _ _)
   | (with_reducible exact quoinref03_Base.mono _ _)
   | (with_reducible exact quoinref03_Places.mono _ _)
   | (with_reducible exact quoinref03_Word.mono _ _ _ _ _ _)
   | (with_reducible exact LeO.refl _)
   | (with_reducible exact LeO.none _)
   | (with_reducible refine LeO.ite ?_ ?_)
   | (with_reducible refine LeO.bind ?_ (fun _ => ?_))
   | exact LeO.none _
   | refine LeO.ite ?_ ?_
   | refine LeO.bind ?_ (fun _ => ?_)
set_option maxHeartbeats 8000000 in
set_option maxRecDepth 100000 in
theorem quoinlaw03_EncTells.calls (k : Nat) (a0_0 : Int) (a0_1 : Int) (a0_2 : Int) (a0_3 : Int) (a0_4 : Int) (a1 : Int) (a2 : Int) (r : Bool) (w : World) (hB : LaidB w) (h : quoinlaw03_EncTells.f k a0_0 a0_1 a0_2 a0_3 a0_4 a1 a2 = some r) :
  Calls Tryd.prog 16 #[.agg #[.int .u8 a0_0, .int .i64 a0_1, .int .i64 a0_2, .int .i64 a0_3, .int .i64 a0_4], .int .u8 a1, .int .u8 a2] w fun e w' => e = .returned (.bool r) ∧ Below w.heap.size w w' := by
 have HLB := Aside0.mk hB
 clear hB
 have hu33 := Tryd.underlying33
 have HB := Aside0.mk (Below.refl w.heap.size w)
 have H : ((enc_Word.f k a0_0 a0_1 a0_2 a0_3 a0_4).bind fun bt588 => ((quoinref03_Word.f k a0_0 a0_1 a0_2 a0_3 a0_4).bind fun bt590 => ((enc_Base.f a1).bind fun bt592 => ((quoinref03_Base.f k a1).bind fun bt594 => ((enc_Places.f k a2).bind fun bt596 => ((quoinref03_Places.f k a2).bind fun bt600 => (if bt588.1 = bt590.1 then (if bt588.2 = bt590.2 then (if bt592.1 = bt594.1 then (if bt592.2 = bt594.2 then ((quoinref01_Same.f k bt596.1 bt600.1).bind fun t604 => (if t604 = true then (some (bt596.2 == bt600.2)) else (none))) else (none)) else (none)) else (none)) else (none)))))))) = some r := h
 clear h
 replace H := Option.bind_eq_some_iff.mp H
 obtain ⟨⟨t588, t589⟩, A40, H⟩ := H
 replace H : ((quoinref03_Word.f k a0_0 a0_1 a0_2 a0_3 a0_4).bind fun bt590 => ((enc_Base.f a1).bind fun bt592 => ((quoinref03_Base.f k a1).bind fun bt594 => ((enc_Places.f k a2).bind fun bt596 => ((quoinref03_Places.f k a2).bind fun bt600 => (if t588 = bt590.1 then (if t589 = bt590.2 then (if bt592.1 = bt594.1 then (if bt592.2 = bt594.2 then ((quoinref01_Same.f k bt596.1 bt600.1).bind fun t604 => (if t604 = true then (some (bt596.2 == bt600.2)) else (none))) else (none)) else (none)) else (none)) else (none))))))) = some r := H
 have A4 := Aside0.mk A40
 clear A40
 replace H := Option.bind_eq_some_iff.mp H
 obtain ⟨⟨t590, t591⟩, A50, H⟩ := H
 replace H : ((enc_Base.f a1).bind fun bt592 => ((quoinref03_Base.f k a1).bind fun bt594 => ((enc_Places.f k a2).bind fun bt596 => ((quoinref03_Places.f k a2).bind fun bt600 => (if t588 = t590 then (if t589 = t591 then (if bt592.1 = bt594.1 then (if bt592.2 = bt594.2 then ((quoinref01_Same.f k bt596.1 bt600.1).bind fun t604 => (if t604 = true then (some (bt596.2 == bt600.2)) else (none))) else (none)) else (none)) else (none)) else (none)))))) = some r := H
 have A5 := Aside0.mk A50
 clear A50
 replace H := Option.bind_eq_some_iff.mp H
 obtain ⟨⟨t592, t593⟩, A60, H⟩ := H
 replace H : ((quoinref03_Base.f k a1).bind fun bt594 => ((enc_Places.f k a2).bind fun bt596 => ((quoinref03_Places.f k a2).bind fun bt600 => (if t588 = t590 then (if t589 = t591 then (if t592 = bt594.1 then (if t593 = bt594.2 then ((quoinref01_Same.f k bt596.1 bt600.1).bind fun t604 => (if t604 = true then (some (bt596.2 == bt600.2)) else (none))) else (none)) else (none)) else (none)) else (none))))) = some r := H
 have A6 := Aside0.mk A60
 clear A60
 replace H := Option.bind_eq_some_iff.mp H
 obtain ⟨⟨t594, t595⟩, A70, H⟩ := H
 replace H : ((enc_Places.f k a2).bind fun bt596 => ((quoinref03_Places.f k a2).bind fun bt600 => (if t588 = t590 then (if t589 = t591 then (if t592 = t594 then (if t593 = t595 then ((quoinref01_Same.f k bt596.1 bt600.1).bind fun t604 => (if t604 = true then (some (bt596.2 == bt600.2)) else (none))) else (none)) else (none)) else (none)) else (none)))) = some r := H
 have A7 := Aside0.mk A70
 clear A70
 replace H := Option.bind_eq_some_iff.mp H
 obtain ⟨⟨t596, t597⟩, A80, H⟩ := H
 replace H : ((quoinref03_Places.f k a2).bind fun bt600 => (if t588 = t590 then (if t589 = t591 then (if t592 = t594 then (if t593 = t595 then ((quoinref01_Same.f k t596 bt600.1).bind fun t604 => (if t604 = true then (some (t597 == bt600.2)) else (none))) else (none)) else (none)) else (none)) else (none))) = some r := H
 have A8 := Aside0.mk A80
 clear A80
 replace H := Option.bind_eq_some_iff.mp H
 obtain ⟨⟨t600, t601⟩, A90, H⟩ := H
 replace H : (if t588 = t590 then (if t589 = t591 then (if t592 = t594 then (if t593 = t595 then ((quoinref01_Same.f k t596 t600).bind fun t604 => (if t604 = true then (some (t597 == t601)) else (none))) else (none)) else (none)) else (none)) else (none)) = some r := H
 have A9 := Aside0.mk A90
 clear A90
 by_cases c10 : t588 = t590
 ·rw [if_pos c10] at H
  have c10b0 := beq_iff_eq.mpr c10
  have c10b1 := bne_eq_false_iff_eq.mpr c10
  clear c10
  by_cases c11 : t589 = t591
  ·rw [if_pos c11] at H
   have c11b0 := beq_iff_eq.mpr c11
   have c11b1 := bne_eq_false_iff_eq.mpr c11
   clear c11
   by_cases c12 : t592 = t594
   ·rw [if_pos c12] at H
    have c12b0 := beq_iff_eq.mpr c12
    have c12b1 := bne_eq_false_iff_eq.mpr c12
    clear c12
    by_cases c13 : t593 = t595
    ·rw [if_pos c13] at H
     have c13b0 := beq_iff_eq.mpr c13
     have c13b1 := bne_eq_false_iff_eq.mpr c13
     clear c13
     replace H := Option.bind_eq_some_iff.mp H
     obtain ⟨t604, A140, H⟩ := H
     replace H : (if t604 = true then (some (t597 == t601)) else (none)) = some r := H
     have A14 := Aside0.mk A140
     clear A140
     by_cases c15 : t604 = true
     ·subst c15
      have H1 : (some (t597 == t601)) = some r := by rw [if_pos rfl] at H; exact H
      clear H
      have H := H1
      clear H1
      obtain rfl := Option.some.inj H
      go_enter Tryd.func16, Tryd.ntmps16
      go_wp2_with (first | ((with_reducible refine gate_dst (N := 3) rfl ?_); refine box_event ?hg (N := 3) ?hd (cs := #[.int .u8 a0_0, .int .i64 a0_1, .int .i64 a0_2, .int .i64 a0_3, .int .i64 a0_4]) (t := 33) ?hr ?_; (case hd => rfl); (case hg => rfl); (case hr => first | (go_simp; done) | (go_simp; rfl)); intro gb587 hg w16 hbox hb; have n0_ := Aside0.mk (below_step (bl HB.out) hb); have n1_ := Aside0.mk (hbox); have n2_ := Aside0.mk ((by rw [hg]; exact (below_size (bl HB.out)) : w.heap.size ≤ gb587)); have n3_ := Aside0.mk ((by rw [hg]; exact (below_size (bl HB.out)) : w.heap.size ≤ gb587)); clear HB; have HB := n0_; have BK587 := n1_; have GW587 := n2_; have GE587 := n3_; clear n0_ n1_ n2_ n3_; clear hb hbox hg; have hcz17_0 : w16.cell? ⟨gb587, 0, none⟩ = some (.int .u8 a0_0) := (blk_cell BK587.out 0).trans rfl; have hcz17_1 : w16.cell? ⟨gb587, 1, none⟩ = some (.int .i64 a0_1) := (blk_cell BK587.out 1).trans rfl; have hcz17_2 : w16.cell? ⟨gb587, 2, none⟩ = some (.int .i64 a0_2) := (blk_cell BK587.out 2).trans rfl; have hcz17_3 : w16.cell? ⟨gb587, 3, none⟩ = some (.int .i64 a0_3) := (blk_cell BK587.out 3).trans rfl; have hcz17_4 : w16.cell? ⟨gb587, 4, none⟩ = some (.int .i64 a0_4) := (blk_cell BK587.out 4).trans rfl; have hfz17_0 := blk_frozen BK587.out 0; have hfz17_1 := blk_frozen BK587.out 1; have hfz17_2 := blk_frozen BK587.out 2; have hfz17_3 := blk_frozen BK587.out 3; have hfz17_4 := blk_frozen BK587.out 4) | ((with_reducible refine gate_callee (f := 26) rfl ?_); refine goesL_ (some 21) rfl rfl Tryd.func26 (by kernel_rfl) rfl #[.agg #[.int .u8 a0_0, .int .i64 a0_1, .int .i64 a0_2, .int .i64 a0_3, .int .i64 a0_4]] rfl (by (try simp only [List.map_toArray, List.map_cons, List.map_nil]); first | done | rfl) ?_; (with_reducible refine (enc_Word.calls k a0_0 a0_1 a0_2 a0_3 a0_4 t588 t589 _ ?sideLB A4.out).mono ?_); (case sideLB => (repeat (first | exact HLB.out | (with_reducible refine LaidB.alloc ?_ _) | (with_reducible refine LaidB.drewN ?_ _) | (with_reducible refine LaidB.drew ?_) | (refine LaidB.below HLB.out ?_; repeat (first | (with_reducible first | exact HB.out | apply below_alloc | apply pw_below_drewN | apply below_drew1 | refine below_set ?_ GE587.out) | exact HB.out))))); rintro e w18 ⟨rfl, hb⟩; refine ⟨_, rfl, ?_⟩; have n0_ := Aside0.mk (blk_below (g := gb587) (o := .cells #[.int .u8 a0_0, .int .i64 a0_1, .int .i64 a0_2, .int .i64 a0_3, .int .i64 a0_4] 33 (0, 0)) (by (with_reducible repeat (first | refine blk_drewN ?_ _ | refine blk_drew ?_ | refine blk_alloc ?_ _)); exact BK587.out) hb); have n1_ := Aside0.mk (below_step (by repeat (first | (with_reducible first | exact HB.out | apply below_alloc | apply pw_below_drewN | apply below_drew1 | refine below_set ?_ GE587.out) | exact HB.out)) hb); clear BK587; clear HB; have BK587 := n0_; have HB := n1_; clear n0_ n1_; (try clear hb); (try clear hb2); (try clear hk); (try clear hi); have hcz19_0 : w18.cell? ⟨gb587, 0, none⟩ = some (.int .u8 a0_0) := (blk_cell BK587.out 0).trans rfl; have hcz19_1 : w18.cell? ⟨gb587, 1, none⟩ = some (.int .i64 a0_1) := (blk_cell BK587.out 1).trans rfl; have hcz19_2 : w18.cell? ⟨gb587, 2, none⟩ = some (.int .i64 a0_2) := (blk_cell BK587.out 2).trans rfl; have hcz19_3 : w18.cell? ⟨gb587, 3, none⟩ = some (.int .i64 a0_3) := (blk_cell BK587.out 3).trans rfl; have hcz19_4 : w18.cell? ⟨gb587, 4, none⟩ = some (.int .i64 a0_4) := (blk_cell BK587.out 4).trans rfl; have hfz19_0 := blk_frozen BK587.out 0; have hfz19_1 := blk_frozen BK587.out 1; have hfz19_2 := blk_frozen BK587.out 2; have hfz19_3 := blk_frozen BK587.out 3; have hfz19_4 := blk_frozen BK587.out 4) | ((with_reducible refine gate_callee (f := 46) rfl ?_); refine goesL_ (some 26) rfl rfl Tryd.func46 (by kernel_rfl) rfl #[.agg #[.int .u8 a0_0, .int .i64 a0_1, .int .i64 a0_2, .int .i64 a0_3, .int .i64 a0_4]] rfl (by (try simp only [List.map_toArray, List.map_cons, List.map_nil]); first | done | rfl) ?_; (with_reducible refine (quoinref03_Word.calls k a0_0 a0_1 a0_2 a0_3 a0_4 t590 t591 _ A5.out).mono ?_); rintro e w20 ⟨rfl, hb⟩; refine ⟨_, rfl, ?_⟩; have n0_ := Aside0.mk (blk_below (g := gb587) (o := .cells #[.int .u8 a0_0, .int .i64 a0_1, .int .i64 a0_2, .int .i64 a0_3, .int .i64 a0_4] 33 (0, 0)) (by (with_reducible repeat (first | refine blk_drewN ?_ _ | refine blk_drew ?_ | refine blk_alloc ?_ _)); exact BK587.out) hb); have n1_ := Aside0.mk (below_step (by repeat (first | (with_reducible first | exact HB.out | apply below_alloc | apply pw_below_drewN | apply below_drew1 | refine below_set ?_ GE587.out) | exact HB.out)) hb); clear BK587; clear HB; have BK587 := n0_; have HB := n1_; clear n0_ n1_; (try clear hb); (try clear hb2); (try clear hk); (try clear hi)) | ((with_reducible refine gate_callee (f := 30) rfl ?_); refine goesL_ (some 31) rfl rfl Tryd.func30 (by kernel_rfl) rfl #[.int .u8 a1] rfl (by (try simp only [List.map_toArray, List.map_cons, List.map_nil]); first | done | rfl) ?_; (with_reducible refine (enc_Base.calls a1 t592 t593 _ ?sideLB A6.out).mono ?_); (case sideLB => (repeat (first | exact HLB.out | (with_reducible refine LaidB.alloc ?_ _) | (with_reducible refine LaidB.drewN ?_ _) | (with_reducible refine LaidB.drew ?_) | (refine LaidB.below HLB.out ?_; repeat (first | (with_reducible first | exact HB.out | apply below_alloc | apply pw_below_drewN | apply below_drew1 | refine below_set ?_ GE587.out) | exact HB.out))))); rintro e w' ⟨rfl, ⟨nd, rfl⟩⟩; refine ⟨_, rfl, ?_⟩) | ((with_reducible refine gate_callee (f := 47) rfl ?_); refine goesL_ (some 36) rfl rfl Tryd.func47 (by kernel_rfl) rfl #[.int .u8 a1] rfl (by (try simp only [List.map_toArray, List.map_cons, List.map_nil]); first | done | rfl) ?_; (with_reducible refine (quoinref03_Base.calls k a1 t594 t595 _ A7.out).mono ?_); rintro e w21 ⟨rfl, hb⟩; refine ⟨_, rfl, ?_⟩; have n0_ := Aside0.mk (blk_below (g := gb587) (o := .cells #[.int .u8 a0_0, .int .i64 a0_1, .int .i64 a0_2, .int .i64 a0_3, .int .i64 a0_4] 33 (0, 0)) (by (with_reducible repeat (first | refine blk_drewN ?_ _ | refine blk_drew ?_ | refine blk_alloc ?_ _)); exact BK587.out) hb); have n1_ := Aside0.mk (below_step (by repeat (first | (with_reducible first | exact HB.out | apply below_alloc | apply pw_below_drewN | apply below_drew1 | refine below_set ?_ GE587.out) | exact HB.out)) hb); clear BK587; clear HB; have BK587 := n0_; have HB := n1_; clear n0_ n1_; (try clear hb); (try clear hb2); (try clear hk); (try clear hi)) | ((with_reducible refine gate_callee (f := 43) rfl ?_); refine goesL_ (some 41) rfl rfl Tryd.func43 (by kernel_rfl) rfl #[.int .u8 a2] rfl (by (try simp only [List.map_toArray, List.map_cons, List.map_nil]); first | done | rfl) ?_; (with_reducible refine (enc_Places.calls k a2 t596 t597 _ A8.out).mono ?_); rintro e w22 ⟨v598, rfl, ho0, hb⟩; refine ⟨_, rfl, ?_⟩; have n0_ := Aside0.mk (Kd.R_lower ho0 (below_size (by repeat (first | (with_reducible first | exact HB.out | apply below_alloc | apply pw_below_drewN | apply below_drew1 | refine below_set ?_ GE587.out) | exact HB.out)))); have n1_ := Aside0.mk (blk_below (g := gb587) (o := .cells #[.int .u8 a0_0, .int .i64 a0_1, .int .i64 a0_2, .int .i64 a0_3, .int .i64 a0_4] 33 (0, 0)) (by (with_reducible repeat (first | refine blk_drewN ?_ _ | refine blk_drew ?_ | refine blk_alloc ?_ _)); exact BK587.out) hb); have n2_ := Aside0.mk (below_step (by repeat (first | (with_reducible first | exact HB.out | apply below_alloc | apply pw_below_drewN | apply below_drew1 | refine below_set ?_ GE587.out) | exact HB.out)) hb); clear BK587; clear HB; have HO599 := n0_; have BK587 := n1_; have HB := n2_; clear n0_ n1_ n2_; (try clear hb); (try clear hb2); (try clear hk); (try clear hi); (try clear ho0)) | ((with_reducible refine gate_callee (f := 48) rfl ?_); refine goesL_ (some 46) rfl rfl Tryd.func48 (by kernel_rfl) rfl #[.int .u8 a2] rfl (by (try simp only [List.map_toArray, List.map_cons, List.map_nil]); first | done | rfl) ?_; (with_reducible refine (quoinref03_Places.calls k a2 t600 t601 _ A9.out).mono ?_); rintro e w23 ⟨v602, rfl, ho0, hb⟩; refine ⟨_, rfl, ?_⟩; have n0_ := Aside0.mk (Kd.R_elder' (by (with_reducible repeat (first | apply Kd.R_alloc | apply Kd.R_drewN | apply Kd.R_drew)); exact HO599.out) (Kd.R_base ho0) hb); have n1_ := Aside0.mk (Kd.R_lower (Kd.R_new' ho0 (Kd.R_lt (by (with_reducible repeat (first | apply Kd.R_alloc | apply Kd.R_drewN | apply Kd.R_drew)); exact HO599.out))) (below_size (by repeat (first | (with_reducible first | exact HB.out | apply below_alloc | apply pw_below_drewN | apply below_drew1 | refine below_set ?_ GE587.out) | exact HB.out)))); have n2_ := Aside0.mk (blk_below (g := gb587) (o := .cells #[.int .u8 a0_0, .int .i64 a0_1, .int .i64 a0_2, .int .i64 a0_3, .int .i64 a0_4] 33 (0, 0)) (by (with_reducible repeat (first | refine blk_drewN ?_ _ | refine blk_drew ?_ | refine blk_alloc ?_ _)); exact BK587.out) hb); have n3_ := Aside0.mk (below_step (by repeat (first | (with_reducible first | exact HB.out | apply below_alloc | apply pw_below_drewN | apply below_drew1 | refine below_set ?_ GE587.out) | exact HB.out)) hb); clear HO599; clear BK587; clear HB; have HO599 := n0_; have HO603 := n1_; have BK587 := n2_; have HB := n3_; clear n0_ n1_ n2_ n3_; (try clear hb); (try clear hb2); (try clear hk); (try clear hi); (try clear ho0); obtain ⟨Ao24, co24, eo24⟩ := Kd.R_slice HO599.out; subst eo24; obtain ⟨Ao25, co25, eo25⟩ := Kd.R_slice HO603.out; subst eo25) | (go_at_call 49; (with_reducible refine (quoinref01_Same.calls k _ _ t596 _ _ t600 true _ ?side1 ?side2 ?side3 ?side4 A14.out).mono ?_); (case side1 => repeat (first | exact (Kd.R_reads' HO599.out).2.2 | (with_reducible refine Kd.C_alloc ?_ _) | (with_reducible refine Kd.C_drewN ?_ _) | (with_reducible refine Kd.C_drew ?_))); (case side2 => exact (Kd.R_reads' HO599.out).2.1); (case side3 => repeat (first | exact (Kd.R_reads' HO603.out).2.2 | (with_reducible refine Kd.C_alloc ?_ _) | (with_reducible refine Kd.C_drewN ?_ _) | (with_reducible refine Kd.C_drew ?_))); (case side4 => exact (Kd.R_reads' HO603.out).2.1); rintro e w' ⟨rfl, ⟨nd, rfl⟩⟩))
      go_ret
      exact ⟨by first | rfl | (simp <;> rfl) | (simp [*] <;> rfl), by repeat (first | (with_reducible first | exact HB.out | apply below_alloc | apply pw_below_drewN | apply below_drew1 | refine below_set ?_ GE587.out) | exact HB.out)⟩
     ·replace c15 := Bool.eq_false_iff.mpr c15
      subst c15
      have H1 : (none) = some r := by rw [if_neg (show ¬ (false = true) by decide)] at H; exact H
      clear H
      have H := H1
      clear H1
      exact absurd H (by simp)
    ·rw [if_neg c13] at H
     exact absurd H (by simp)
   ·rw [if_neg c12] at H
    exact absurd H (by simp)
  ·rw [if_neg c11] at H
   exact absurd H (by simp)
 ·rw [if_neg c10] at H
  exact absurd H (by simp)

end Go.Proofs.YtpijiohiohiilaaDoor.D
