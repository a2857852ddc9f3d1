/- Walks and rows of the laws of quoin: each Lean function here tells just what the Go function of its name answers. Conditions: none but those that a row itself names. Written by a program of this session (wip/reprint.py) over the kit print, and turned by it. -/
import Derived.Test.YtpijiohiohiilaaDoorD0
import Derived.Test.YtpijiohiohiilaaDoorDEq0
import Derived.Test.YtpijiohiohiilaaDoorGDin
namespace Go.Proofs.YtpijiohiohiilaaDoor.D
open Go.RowKit Go.Proofs.YtpijiohiohiilaaDoorW.PrintWords Go.Proofs.YtpijiohiohiilaaDoorW.PrintLast Go.Proofs.YtpijiohiohiilaaDoorW.PrintMore
attribute [local go_sem] max2_int min2_int max_two min_two max_three min_three max_four min_four   -- for this text's walks alone
set_option linter.unusedVariables false
set_option linter.unusedSimpArgs false

attribute [local go_sem high] eqA33
/-! ### quoinlaw04_alive: function 25 -/
def quoinlaw04_alive.f (k : Nat)  : Option (Bool) := (dec_Insn.f k 4293984403).bind fun bt201 => ((dec_Insn.f k 2143267).bind fun bt208 => (if bt201.2.2.2.2.2 = 0 then (if bt208.2.2.2.2.2 = 0 then (if (bt201.1 == 22 && (bt201.2.1 == 1 && (bt201.2.2.1 == 2 && (bt201.2.2.2.1 == 0 && (bt201.2.2.2.2.1 == (-1)))))) = true then (some (bt208.1 == 21 && (bt208.2.1 == 0 && (bt208.2.2.1 == 1 && (bt208.2.2.2.1 == 2 && (bt208.2.2.2.2.1 == 8)))))) else (none)) else (none)) else (none)))
theorem quoinlaw04_alive.mono : ∀ k, LeO (quoinlaw04_alive.f k ) (quoinlaw04_alive.f (k + 1) ) := by
  intro  k
  unfold quoinlaw04_alive.f
  repeat' first
      | (with_reducible exact dec_Insn.mono _ _)
      | (with_reducible exact LeO.refl _)
      | (with_reducible exact LeO.none _)
      | (with_reducible refine LeO.ite ?_ ?_)
      | (with_reducible refine LeO.bind ?_ (fun _ => ?_))
      | exact dec_Insn.mono _ _
      | exact LeO.none _
      | refine LeO.ite ?_ ?_
      | refine LeO.bind ?_ (fun _ => ?_)
set_option maxHeartbeats 8000000 in
set_option maxRecDepth 100000 in
theorem quoinlaw04_alive.calls (k : Nat)  (r : Bool) (w : World) (hB : LaidB w) (h : quoinlaw04_alive.f k  = some r) :
    Calls Tryd.prog 25 #[] w fun e w' => e = .returned (.bool r) ∧ Below w.heap.size w w' := by
  have HLB := Aside0.mk hB
  clear hB
  have hu33 := Tryd.underlying33
  have HB := Aside0.mk (Below.refl w.heap.size w)
  have H : ((dec_Insn.f k 4293984403).bind fun bt201 => ((dec_Insn.f k 2143267).bind fun bt208 => (if bt201.2.2.2.2.2 = 0 then (if bt208.2.2.2.2.2 = 0 then (if (bt201.1 == 22 && (bt201.2.1 == 1 && (bt201.2.2.1 == 2 && (bt201.2.2.2.1 == 0 && (bt201.2.2.2.2.1 == (-1)))))) = true then (some (bt208.1 == 21 && (bt208.2.1 == 0 && (bt208.2.2.1 == 1 && (bt208.2.2.2.1 == 2 && (bt208.2.2.2.2.1 == 8)))))) else (none)) else (none)) else (none)))) = some r := h
  clear h
  replace H := Option.bind_eq_some_iff.mp H
  obtain ⟨⟨t201, t202, t203, t204, t205, t206⟩, A10, H⟩ := H
  replace H : ((dec_Insn.f k 2143267).bind fun bt208 => (if t206 = 0 then (if bt208.2.2.2.2.2 = 0 then (if (t201 == 22 && (t202 == 1 && (t203 == 2 && (t204 == 0 && (t205 == (-1)))))) = true then (some (bt208.1 == 21 && (bt208.2.1 == 0 && (bt208.2.2.1 == 1 && (bt208.2.2.2.1 == 2 && (bt208.2.2.2.2.1 == 8)))))) else (none)) else (none)) else (none))) = some r := H
  have A1 := Aside0.mk A10
  clear A10
  replace H := Option.bind_eq_some_iff.mp H
  obtain ⟨⟨t208, t209, t210, t211, t212, t213⟩, A20, H⟩ := H
  replace H : (if t206 = 0 then (if t213 = 0 then (if (t201 == 22 && (t202 == 1 && (t203 == 2 && (t204 == 0 && (t205 == (-1)))))) = true then (some (t208 == 21 && (t209 == 0 && (t210 == 1 && (t211 == 2 && (t212 == 8)))))) else (none)) else (none)) else (none)) = some r := H
  have A2 := Aside0.mk A20
  clear A20
  by_cases c3 : t206 = 0
  · rw [if_pos c3] at H
    have c3b0 : (t206 == 0) = true := beq_iff_eq.mpr c3
    have c3b1 : (t206 != 0) = false := bne_eq_false_iff_eq.mpr c3
    clear c3
    by_cases c4 : t213 = 0
    · rw [if_pos c4] at H
      have c4b0 : (t213 == 0) = true := beq_iff_eq.mpr c4
      have c4b1 : (t213 != 0) = false := bne_eq_false_iff_eq.mpr c4
      clear c4
      by_cases c5 : (t201 == 22 && (t202 == 1 && (t203 == 2 && (t204 == 0 && (t205 == (-1)))))) = true
      · rw [if_pos c5] at H
        have c5b0 : (t201 == 22 && (t202 == 1 && (t203 == 2 && (t204 == 0 && (t205 == (-1)))))) = true := c5
        (try (have c5b1 : decide (t201 = 22 && (t202 == 1 && (t203 == 2 && (t204 == 0 && (t205 == (-1)))))) = true := by simpa using c5))
        (try (have c5b2 : (t201 == 22 && (t202 == 1 && (t203 == 2 && (t204 == 0 && (t205 == (-1)))))) = true := by simpa using c5))
        clear c5
        obtain rfl := Option.some.inj H
        go_enter Tryd.func25, Tryd.ntmps25
        go_wp2_with (first | ((with_reducible refine gate_callee (f := 27) rfl ?_); refine goesL_ (some 6) rfl rfl Tryd.func27 (by kernel_rfl) rfl #[.int .u32 4293984403] rfl (by (try simp only [List.map_toArray, List.map_cons, List.map_nil]); first | done | rfl | (simp only [List.length_drop, List.length_take]; rfl)) ?_; (with_reducible refine (dec_Insn.calls k 4293984403 t201 t202 t203 t204 t205 t206 _ ?sideLB A1.out).mono ?_); (case sideLB => (repeat (first | exact HLB.out | (with_reducible refine LaidB.alloc ?_ _) | (with_reducible refine LaidB.drewN ?_ _) | (with_reducible refine LaidB.drew ?_) | (refine LaidB.below HLB.out ?_; repeat (first | (with_reducible first | exact HB.out | apply below_alloc | apply pw_below_drewN | apply below_drew1 | refine below_set ?_ GE207.out | refine below_set ?_ GE214.out) | exact HB.out))))); rintro e w6 ⟨rfl, hb⟩; refine ⟨_, rfl, ?_⟩; have n0_ := Aside0.mk (below_step (by repeat (first | (with_reducible first | exact HB.out | apply below_alloc | apply pw_below_drewN | apply below_drew1) | exact HB.out)) hb); clear HB; have HB := n0_; clear n0_; (try clear hb); (try clear hb2); (try clear hk); (try clear hi)) | ((with_reducible refine gate_dst (N := 1) rfl ?_); refine box_event ?hg (N := 1) ?hd (cs := #[.int .u8 0, .int .i64 0, .int .i64 0, .int .i64 0, .int .i64 0]) (t := 33) ?hr ?_; (case hd => rfl); (case hg => rfl); (case hr => first | (go_simp; done) | (go_simp; rfl)); intro gb207 hg w7 hbox hb; have n0_ := Aside0.mk (below_step (by repeat (first | (with_reducible first | exact HB.out | apply below_alloc | apply pw_below_drewN | apply below_drew1) | exact HB.out)) hb); have n1_ := Aside0.mk (hbox); have n2_ := Aside0.mk ((by rw [hg]; exact (below_size (by repeat (first | (with_reducible first | exact HB.out | apply below_alloc | apply pw_below_drewN | apply below_drew1) | exact HB.out))) : w.heap.size ≤ gb207)); have n3_ := Aside0.mk ((by rw [hg]; exact (below_size (by repeat (first | (with_reducible first | exact HB.out | apply below_alloc | apply pw_below_drewN | apply below_drew1) | exact HB.out))) : w.heap.size ≤ gb207)); clear HB; have HB := n0_; have BK207 := n1_; have GW207 := n2_; have GE207 := n3_; clear n0_ n1_ n2_ n3_; clear hb hbox hg; have hcz8_0 : w7.cell? ⟨gb207, 0, none⟩ = some (.int .u8 0) := (blk_cell BK207.out 0).trans rfl; have hcz8_1 : w7.cell? ⟨gb207, 1, none⟩ = some (.int .i64 0) := (blk_cell BK207.out 1).trans rfl; have hcz8_2 : w7.cell? ⟨gb207, 2, none⟩ = some (.int .i64 0) := (blk_cell BK207.out 2).trans rfl; have hcz8_3 : w7.cell? ⟨gb207, 3, none⟩ = some (.int .i64 0) := (blk_cell BK207.out 3).trans rfl; have hcz8_4 : w7.cell? ⟨gb207, 4, none⟩ = some (.int .i64 0) := (blk_cell BK207.out 4).trans rfl; have hfz8_0 := blk_frozen BK207.out 0; have hfz8_1 := blk_frozen BK207.out 1; have hfz8_2 := blk_frozen BK207.out 2; have hfz8_3 := blk_frozen BK207.out 3; have hfz8_4 := blk_frozen BK207.out 4) | ((with_reducible refine gate_callee (f := 27) rfl ?_); refine goesL_ (some 10) rfl rfl Tryd.func27 (by kernel_rfl) rfl #[.int .u32 2143267] rfl (by (try simp only [List.map_toArray, List.map_cons, List.map_nil]); first | done | rfl | (simp only [List.length_drop, List.length_take]; rfl)) ?_; (with_reducible refine (dec_Insn.calls k 2143267 t208 t209 t210 t211 t212 t213 _ ?sideLB A2.out).mono ?_); (case sideLB => (repeat (first | exact HLB.out | (with_reducible refine LaidB.alloc ?_ _) | (with_reducible refine LaidB.drewN ?_ _) | (with_reducible refine LaidB.drew ?_) | (refine LaidB.below HLB.out ?_; repeat (first | (with_reducible first | exact HB.out | apply below_alloc | apply pw_below_drewN | apply below_drew1 | refine below_set ?_ GE207.out | refine below_set ?_ GE214.out) | exact HB.out))))); rintro e w9 ⟨rfl, hb⟩; refine ⟨_, rfl, ?_⟩; have n0_ := Aside0.mk (blk_below (g := gb207) (o := .cells #[.int .u8 t201, .int .i64 t202, .int .i64 t203, .int .i64 t204, .int .i64 t205] 33 (0, 0)) (by (with_reducible repeat (first | refine blk_drewN ?_ _ | refine blk_drew ?_ | refine blk_alloc ?_ _)); refine blk_put (cs := #[.int .u8 t201, .int .i64 t202, .int .i64 t203, .int .i64 t204, .int .i64 0]) ?_ 4 _ rfl; (with_reducible repeat (first | refine blk_drewN ?_ _ | refine blk_drew ?_ | refine blk_alloc ?_ _)); refine blk_put (cs := #[.int .u8 t201, .int .i64 t202, .int .i64 t203, .int .i64 0, .int .i64 0]) ?_ 3 _ rfl; (with_reducible repeat (first | refine blk_drewN ?_ _ | refine blk_drew ?_ | refine blk_alloc ?_ _)); refine blk_put (cs := #[.int .u8 t201, .int .i64 t202, .int .i64 0, .int .i64 0, .int .i64 0]) ?_ 2 _ rfl; (with_reducible repeat (first | refine blk_drewN ?_ _ | refine blk_drew ?_ | refine blk_alloc ?_ _)); refine blk_put (cs := #[.int .u8 t201, .int .i64 0, .int .i64 0, .int .i64 0, .int .i64 0]) ?_ 1 _ rfl; (with_reducible repeat (first | refine blk_drewN ?_ _ | refine blk_drew ?_ | refine blk_alloc ?_ _)); refine blk_put (cs := #[.int .u8 0, .int .i64 0, .int .i64 0, .int .i64 0, .int .i64 0]) ?_ 0 _ rfl; (with_reducible repeat (first | refine blk_drewN ?_ _ | refine blk_drew ?_ | refine blk_alloc ?_ _)); exact BK207.out) hb); have n1_ := Aside0.mk (below_step (by repeat (first | (with_reducible first | exact HB.out | apply below_alloc | apply pw_below_drewN | apply below_drew1 | refine below_set ?_ GE207.out) | exact HB.out)) hb); clear BK207; clear HB; have BK207 := n0_; have HB := n1_; clear n0_ n1_; (try clear hb); (try clear hb2); (try clear hk); (try clear hi)) | ((with_reducible refine gate_dst (N := 3) rfl ?_); refine box_event ?hg (N := 3) ?hd (cs := #[.int .u8 0, .int .i64 0, .int .i64 0, .int .i64 0, .int .i64 0]) (t := 33) ?hr ?_; (case hd => rfl); (case hg => rfl); (case hr => first | (go_simp; done) | (go_simp; rfl)); intro gb214 hg w10 hbox hb; have n0_ := Aside0.mk (blk_below (g := gb207) (o := .cells #[.int .u8 t201, .int .i64 t202, .int .i64 t203, .int .i64 t204, .int .i64 t205] 33 (0, 0)) (by (with_reducible repeat (first | refine blk_drewN ?_ _ | refine blk_drew ?_ | refine blk_alloc ?_ _)); exact BK207.out) hb); have n1_ := Aside0.mk (below_step (by repeat (first | (with_reducible first | exact HB.out | apply below_alloc | apply pw_below_drewN | apply below_drew1 | refine below_set ?_ GE207.out) | exact HB.out)) hb); have n2_ := Aside0.mk (hbox); have n3_ := Aside0.mk ((by rw [hg]; exact (below_size (by repeat (first | (with_reducible first | exact HB.out | apply below_alloc | apply pw_below_drewN | apply below_drew1 | refine below_set ?_ GE207.out) | exact HB.out))) : w.heap.size ≤ gb214)); have n4_ := Aside0.mk ((by rw [hg]; exact (below_size (by repeat (first | (with_reducible first | exact HB.out | apply below_alloc | apply pw_below_drewN | apply below_drew1 | refine below_set ?_ GE207.out) | exact HB.out))) : w.heap.size ≤ gb214)); have n5_ := Aside0.mk ((by rw [hg]; exact Nat.ne_of_lt (blk_lt (g := gb207) (o := .cells #[.int .u8 t201, .int .i64 t202, .int .i64 t203, .int .i64 t204, .int .i64 t205] 33 (0, 0)) (by (with_reducible repeat (first | refine blk_drewN ?_ _ | refine blk_drew ?_ | refine blk_alloc ?_ _)); exact BK207.out)) : gb207 ≠ gb214)); have n6_ := Aside0.mk ((by rw [hg]; exact Nat.ne_of_gt (blk_lt (g := gb207) (o := .cells #[.int .u8 t201, .int .i64 t202, .int .i64 t203, .int .i64 t204, .int .i64 t205] 33 (0, 0)) (by (with_reducible repeat (first | refine blk_drewN ?_ _ | refine blk_drew ?_ | refine blk_alloc ?_ _)); exact BK207.out)) : gb214 ≠ gb207)); clear BK207; clear HB; have BK207 := n0_; have HB := n1_; have BK214 := n2_; have GW214 := n3_; have GE214 := n4_; have NB207_214 := n5_; have NB214_207 := n6_; clear n0_ n1_ n2_ n3_ n4_ n5_ n6_; clear hb hbox hg; have hnb11 := NB214_207.out; have hnc11 := NB207_214.out; have hcz12_0 : w10.cell? ⟨gb214, 0, none⟩ = some (.int .u8 0) := (blk_cell BK214.out 0).trans rfl; have hcz12_1 : w10.cell? ⟨gb214, 1, none⟩ = some (.int .i64 0) := (blk_cell BK214.out 1).trans rfl; have hcz12_2 : w10.cell? ⟨gb214, 2, none⟩ = some (.int .i64 0) := (blk_cell BK214.out 2).trans rfl; have hcz12_3 : w10.cell? ⟨gb214, 3, none⟩ = some (.int .i64 0) := (blk_cell BK214.out 3).trans rfl; have hcz12_4 : w10.cell? ⟨gb214, 4, none⟩ = some (.int .i64 0) := (blk_cell BK214.out 4).trans rfl; have hfz12_0 := blk_frozen BK214.out 0; have hfz12_1 := blk_frozen BK214.out 1; have hfz12_2 := blk_frozen BK214.out 2; have hfz12_3 := blk_frozen BK214.out 3; have hfz12_4 := blk_frozen BK214.out 4; have hcz13_0 : w10.cell? ⟨gb207, 0, none⟩ = some (.int .u8 t201) := (blk_cell BK207.out 0).trans rfl; have hcz13_1 : w10.cell? ⟨gb207, 1, none⟩ = some (.int .i64 t202) := (blk_cell BK207.out 1).trans rfl; have hcz13_2 : w10.cell? ⟨gb207, 2, none⟩ = some (.int .i64 t203) := (blk_cell BK207.out 2).trans rfl; have hcz13_3 : w10.cell? ⟨gb207, 3, none⟩ = some (.int .i64 t204) := (blk_cell BK207.out 3).trans rfl; have hcz13_4 : w10.cell? ⟨gb207, 4, none⟩ = some (.int .i64 t205) := (blk_cell BK207.out 4).trans rfl; have hfz13_0 := blk_frozen BK207.out 0; have hfz13_1 := blk_frozen BK207.out 1; have hfz13_2 := blk_frozen BK207.out 2; have hfz13_3 := blk_frozen BK207.out 3; have hfz13_4 := blk_frozen BK207.out 4))
        go_ret
        exact ⟨by first | rfl | (simp [errW_none, errW_some] <;> rfl) | (simp [*, errW_none, errW_some] <;> rfl), by repeat (first | (with_reducible first | exact HB.out | apply below_alloc | apply pw_below_drewN | apply below_drew1 | refine below_set ?_ GE207.out | refine below_set ?_ GE214.out) | exact HB.out)⟩
      · rw [if_neg c5] at H
        exact absurd H (by simp)
    · rw [if_neg c4] at H
      exact absurd H (by simp)
  · rw [if_neg c3] at H
    exact absurd H (by simp)

end Go.Proofs.YtpijiohiohiilaaDoor.D
