/- Walks and rows of the laws of quoin: each Lean function here tells just what the Go function of its name answers. Conditions: none but those that a row itself names. Written by a program of this session (wip/reprint.py) over the kit print, and turned by it. -/
import Derived.Test.YtpijiohiohiilaaDoorD0
import Derived.Test.YtpijiohiohiilaaDoorDQuoinref01
import Derived.Test.YtpijiohiohiilaaDoorDQuoinref03
import Derived.Test.YtpijiohiohiilaaDoorDQuoinref04
import Derived.Test.YtpijiohiohiilaaDoorDQuoinref04n1
namespace Go.Proofs.YtpijiohiohiilaaDoor.D
open Go.RowKit Go.Proofs.YtpijiohiohiilaaDoorW.PrintWords Go.Proofs.YtpijiohiohiilaaDoorW.PrintLast Go.Proofs.YtpijiohiohiilaaDoorW.PrintMore
attribute [local go_sem] max2_int min2_int max_two min_two max_three min_three max_four min_four   -- for this text's walks alone
set_option linter.unusedVariables false
set_option linter.unusedSimpArgs false

/-! ### quoinref04_Insn: function 50 -/
def quoinref04_Insn.l0 : Nat → Int → Int → Int → Option (Int × Int × Int × Int × Int × Int)
 | 0, _, _, _ => none
 | k + 1, x0, x4, x5 => if x5 ≤ 94 then ((quoinref03_Bits.f k x5).bind fun t678 => (if (Int.tmod t678 128) = x4 then ((quoinref04_Read.f k x5 x0).bind fun bt679 => (if bt679.2.2.2.2.2 = true then (some (bt679.1, bt679.2.1, bt679.2.2.1, bt679.2.2.2.1, bt679.2.2.2.2.1, 0)) else (quoinref04_Insn.l0 k x0 x4 ((x5 + 1) % 256)))) else (quoinref04_Insn.l0 k x0 x4 ((x5 + 1) % 256)))) else (some (0, 0, 0, 0, 0, 40))
def quoinref04_Insn.f (k : Nat) (a0 : Int) : Option (Int × Int × Int × Int × Int × Int) := quoinref04_Insn.l0 k a0 (Int.tmod a0 128) 1
theorem quoinref04_Insn.mono_l : ∀ k, (∀ y0 y1 y2, LeO (quoinref04_Insn.l0 k y0 y1 y2) (quoinref04_Insn.l0 (k + 1) y0 y1 y2))
 | 0 => fun _ _ _ r h => by simp [quoinref04_Insn.l0] at h
 | k + 1 => by
  have ih0 := quoinref04_Insn.mono_l k
  ·intro y0 y1 y2
   unfold quoinref04_Insn.l0
   repeat' first
   | (with_reducible exact ih0 _ _ _)
   | (with_reducible exact quoinref03_Bits.mono _ _)
   | (with_reducible exact quoinref04_Read.mono _ _ _)
   | (with_reducible exact LeO.refl _)
   | (with_reducible exact LeO.none _)
   | (with_reducible refine LeO.ite ?_ ?_)
   | (with_reducible refine LeO.bind ?_ (fun _ => ?_))
   | exact LeO.none _
   | refine LeO.ite ?_ ?_
   | refine LeO.bind ?_ (fun _ => ?_)
theorem quoinref04_Insn.mono : ∀ a0 k, LeO (quoinref04_Insn.f k a0) (quoinref04_Insn.f (k + 1) a0) := by
 intro a0 k
 have ih0 := quoinref04_Insn.mono_l k
 unfold quoinref04_Insn.f
 repeat' first
   | (with_reducible exact ih0 _ _ _)
   | (with_reducible exact quoinref03_Bits.mono _ _)
   | (with_reducible exact quoinref04_Read.mono _ _ _)
   | (with_reducible exact LeO.refl _)
   | (with_reducible exact LeO.none _)
   | (with_reducible refine LeO.ite ?_ ?_)
   | (with_reducible refine LeO.bind ?_ (fun _ => ?_))
   | exact LeO.none _
   | refine LeO.ite ?_ ?_
   | refine LeO.bind ?_ (fun _ => ?_)
set_option maxHeartbeats 8000000 in
set_option maxRecDepth 100000 in
theorem quoinref04_Insn.calls (k : Nat) (a0 : Int) (r1 : Int) (r2 : Int) (r3 : Int) (r4 : Int) (r5 : Int) (r6 : Int) (w : World) (h : quoinref04_Insn.f k a0 = some (r1, r2, r3, r4, r5, r6)) :
  Calls Tryd.prog 50 #[.int .u32 a0] w fun e w' => e = .returned (.tuple #[.agg #[.int .u8 r1, .int .i64 r2, .int .i64 r3, .int .i64 r4, .int .i64 r5], .int .i64 r6]) ∧ Below w.heap.size w w' := by
 have hu33 := Tryd.underlying33
 have HB := Aside0.mk (Below.refl w.heap.size w)
 have H : (quoinref04_Insn.l0 k a0 (Int.tmod a0 128) 1) = some (r1, r2, r3, r4, r5, r6) := h
 clear h
 have H' := Aside0.mk H
 clear H
 go_enter Tryd.func50, Tryd.ntmps50
 go_wp2_with (first | ((with_reducible refine gate_dst (N := 2) rfl ?_); refine box_event ?hg (N := 2) ?hd (cs := #[.int .u8 0, .int .i64 0, .int .i64 0, .int .i64 0, .int .i64 0]) (t := 33) ?hr ?_; (case hd => rfl); (case hg => rfl); (case hr => first | (go_simp; done) | (go_simp; rfl)); intro gb677 hg w2 hbox hb; have n0_ := Aside0.mk (below_step (bl HB.out) hb); have n1_ := Aside0.mk (hbox); have n2_ := Aside0.mk ((by rw [hg]; exact (below_size (bl HB.out)) : w.heap.size ≤ gb677)); have n3_ := Aside0.mk ((by rw [hg]; exact (below_size (bl HB.out)) : w.heap.size ≤ gb677)); clear HB; have HB := n0_; have BK677 := n1_; have GW677 := n2_; have GE677 := n3_; clear n0_ n1_ n2_ n3_; clear hb hbox hg))
 go_loopg [5] k (fun kq v5 w' => ∃ (x5_1 : Int) (x678000_1 : Int) (x678001_1 : Int) (x678002_1 : Int) (x678003_1 : Int) (x678004_1 : Int), v5 = .int .u8 x5_1 ∧ Aside0 (quoinref04_Insn.l0 kq a0 (Int.tmod a0 128) x5_1 = some (r1, r2, r3, r4, r5, r6)) ∧ Aside0 (kq ≤ k) ∧ Aside0 (w'.heap[gb677]? = some (.cells #[.int .u8 x678000_1, .int .i64 x678001_1, .int .i64 x678002_1, .int .i64 x678003_1, .int .i64 x678004_1] 33 (0, 0))) ∧ Aside0 (Below w.heap.size w w'))
 case atStart => exact ⟨(1), (0), (0), (0), (0), (0), (by first | rfl | (simp; done) | (simp only [i64_w, i32_w]; first | done | rfl | (simp; done)) | (simp [*]; done)), H', ⟨Nat.le_refl _⟩, ⟨bk BK677.out⟩, ⟨by repeat (first | (with_reducible first | exact HB.out | apply below_alloc | apply pw_below_drewN | apply below_drew1 | refine below_set ?_ GE677.out) | exact HB.out)⟩⟩
 case round =>
  clear H'
  try clear p2
  obtain ⟨x5_1, x678000_1, x678001_1, x678002_1, x678003_1, x678004_1, rfl, HA, HK1, BK677, HB⟩ := hrel
  cases gk with
  | zero => exact absurd HA.out (by simp [quoinref04_Insn.l0])
  | succ k1 =>
   have H := HA.out
   clear HA
   simp only [quoinref04_Insn.l0] at H
   by_cases c3 : x5_1 ≤ 94
   ·rw [if_pos c3] at H
    have c3b0 : decide (x5_1 ≤ 94) = true := decide_eq_true c3
    clear c3
    replace H := Option.bind_eq_some_iff.mp H
    obtain ⟨t678, A40, H⟩ := H
    have A4 := Aside0.mk A40
    clear A40
    by_cases c5 : (Int.tmod t678 128) = (Int.tmod a0 128)
    ·rw [if_pos c5] at H
     have c5b0 := beq_iff_eq.mpr c5
     have c5b1 := bne_eq_false_iff_eq.mpr c5
     clear c5
     replace H := Option.bind_eq_some_iff.mp H
     obtain ⟨⟨t679, t680, t681, t682, t683, t684⟩, A60, H⟩ := H
     have A6 := Aside0.mk A60
     clear A60
     by_cases c7 : t684 = true
     ·subst c7
      have H1 : (some (t679, t680, t681, t682, t683, 0)) = some (r1, r2, r3, r4, r5, r6) := by rw [if_pos rfl] at H; exact H
      clear H
      have H := H1
      clear H1
      simp only [Option.some.injEq, Prod.mk.injEq] at H
      obtain ⟨rfl, rfl, rfl, rfl, rfl, rfl⟩ := H
      go_wp2_with (first | ((with_reducible refine gate_callee (f := 68) rfl ?_); refine goesL_ (some 15) rfl rfl Tryd.func68 (by kernel_rfl) rfl #[.int .u8 x5_1] rfl (by (try simp only [List.map_toArray, List.map_cons, List.map_nil]); first | done | rfl) ?_; (with_reducible refine (quoinref03_Bits.calls k1 x5_1 t678 _ A4.out).mono ?_); rintro e w8 ⟨rfl, hb⟩; refine ⟨_, rfl, ?_⟩; have n0_ := Aside0.mk (blk_below (g := gb677) (o := .cells #[.int .u8 x678000_1, .int .i64 x678001_1, .int .i64 x678002_1, .int .i64 x678003_1, .int .i64 x678004_1] 33 (0, 0)) (bk BK677.out) hb); have n1_ := Aside0.mk (below_step (by repeat (first | (with_reducible first | exact HB.out | apply below_alloc | apply pw_below_drewN | apply below_drew1 | refine below_set ?_ GE677.out) | exact HB.out)) hb); clear BK677; clear HB; have BK677 := n0_; have HB := n1_; clear n0_ n1_; (try clear hb); (try clear hb2); (try clear hk); (try clear hi)) | ((with_reducible refine gate_callee (f := 70) rfl ?_); refine goesL_ (some 22) rfl rfl Tryd.func70 (by kernel_rfl) rfl #[.int .u8 x5_1, .int .u32 a0] rfl (by (try simp only [List.map_toArray, List.map_cons, List.map_nil]); first | done | rfl) ?_; (with_reducible refine (quoinref04_Read.calls k1 x5_1 a0 t679 t680 t681 t682 t683 true _ A6.out).mono ?_); rintro e w9 ⟨rfl, hb⟩; refine ⟨_, rfl, ?_⟩; have n0_ := Aside0.mk (blk_below (g := gb677) (o := .cells #[.int .u8 x678000_1, .int .i64 x678001_1, .int .i64 x678002_1, .int .i64 x678003_1, .int .i64 x678004_1] 33 (0, 0)) (bk BK677.out) hb); have n1_ := Aside0.mk (below_step (by repeat (first | (with_reducible first | exact HB.out | apply below_alloc | apply pw_below_drewN | apply below_drew1 | refine below_set ?_ GE677.out) | exact HB.out)) hb); clear BK677; clear HB; have BK677 := n0_; have HB := n1_; clear n0_ n1_; (try clear hb); (try clear hb2); (try clear hk); (try clear hi)) | ((with_reducible refine gate_dst (N := 6) rfl ?_); refine box_event ?hg (N := 6) ?hd (cs := #[.int .u8 0, .int .i64 0, .int .i64 0, .int .i64 0, .int .i64 0]) (t := 33) ?hr ?_; (case hd => rfl); (case hg => rfl); (case hr => first | (go_simp; done) | (go_simp; rfl)); intro gb685 hg w10 hbox hb; have n0_ := Aside0.mk (blk_below (g := gb677) (o := .cells #[.int .u8 x678000_1, .int .i64 x678001_1, .int .i64 x678002_1, .int .i64 x678003_1, .int .i64 x678004_1] 33 (0, 0)) (bk BK677.out) hb); have n1_ := Aside0.mk (below_step (by repeat (first | (with_reducible first | exact HB.out | apply below_alloc | apply pw_below_drewN | apply below_drew1 | refine below_set ?_ GE677.out) | exact HB.out)) hb); have n2_ := Aside0.mk (hbox); have n3_ := Aside0.mk ((by rw [hg]; exact (below_size (by repeat (first | (with_reducible first | exact HB.out | apply below_alloc | apply pw_below_drewN | apply below_drew1 | refine below_set ?_ GE677.out) | exact HB.out))) : w.heap.size ≤ gb685)); have n4_ := Aside0.mk ((by rw [hg]; exact (below_size (by repeat (first | (with_reducible first | exact HB.out | apply below_alloc | apply pw_below_drewN | apply below_drew1 | refine below_set ?_ GE677.out) | exact HB.out))) : w.heap.size ≤ gb685)); have n5_ := Aside0.mk ((by rw [hg]; exact Nat.ne_of_lt (blk_lt (g := gb677) (o := .cells #[.int .u8 x678000_1, .int .i64 x678001_1, .int .i64 x678002_1, .int .i64 x678003_1, .int .i64 x678004_1] 33 (0, 0)) (bk BK677.out)) : gb677 ≠ gb685)); have n6_ := Aside0.mk ((by rw [hg]; exact Nat.ne_of_gt (blk_lt (g := gb677) (o := .cells #[.int .u8 x678000_1, .int .i64 x678001_1, .int .i64 x678002_1, .int .i64 x678003_1, .int .i64 x678004_1] 33 (0, 0)) (bk BK677.out)) : gb685 ≠ gb677)); clear BK677; clear HB; have BK677 := n0_; have HB := n1_; have BK685 := n2_; have GW685 := n3_; have GE685 := n4_; have NB677_685 := n5_; have NB685_677 := n6_; clear n0_ n1_ n2_ n3_ n4_ n5_ n6_; clear hb hbox hg; have hnb11 := NB685_677.out; have hnc11 := NB677_685.out; obtain ⟨hcz12_0, hcz12_1, hcz12_2, hcz12_3, hcz12_4, hfz12_0, hfz12_1, hfz12_2, hfz12_3, hfz12_4⟩ := cells5 BK685.out; obtain ⟨hcz13_0, hcz13_1, hcz13_2, hcz13_3, hcz13_4, hfz13_0, hfz13_1, hfz13_2, hfz13_3, hfz13_4⟩ := cells5 BK677.out))
      refine bodyPost_ret (results_ct rfl _ _ gb677 33 #[.int .u8 t679, .int .i64 t680, .int .i64 t681, .int .i64 t682, .int .i64 t683] (0, 0) _ rfl (by (with_reducible repeat (first | refine blk_drewN ?_ _ | refine blk_drew ?_ | refine blk_alloc ?_ _)); refine blk_put (cs := #[.int .u8 t679, .int .i64 t680, .int .i64 t681, .int .i64 t682, .int .i64 x678004_1]) ?_ 4 _ rfl; (with_reducible repeat (first | refine blk_drewN ?_ _ | refine blk_drew ?_ | refine blk_alloc ?_ _)); refine blk_put (cs := #[.int .u8 t679, .int .i64 t680, .int .i64 t681, .int .i64 x678003_1, .int .i64 x678004_1]) ?_ 3 _ rfl; (with_reducible repeat (first | refine blk_drewN ?_ _ | refine blk_drew ?_ | refine blk_alloc ?_ _)); refine blk_put (cs := #[.int .u8 t679, .int .i64 t680, .int .i64 x678002_1, .int .i64 x678003_1, .int .i64 x678004_1]) ?_ 2 _ rfl; (with_reducible repeat (first | refine blk_drewN ?_ _ | refine blk_drew ?_ | refine blk_alloc ?_ _)); refine blk_put (cs := #[.int .u8 t679, .int .i64 x678001_1, .int .i64 x678002_1, .int .i64 x678003_1, .int .i64 x678004_1]) ?_ 1 _ rfl; (with_reducible repeat (first | refine blk_drewN ?_ _ | refine blk_drew ?_ | refine blk_alloc ?_ _)); refine blk_put (cs := #[.int .u8 x678000_1, .int .i64 x678001_1, .int .i64 x678002_1, .int .i64 x678003_1, .int .i64 x678004_1]) ?_ 0 _ rfl; repeat (first | (with_reducible first | exact BK677.out | refine blk_drewN ?_ _ | refine blk_drew ?_ | refine blk_alloc ?_ _) | refine blk_far ?_ NB677_685.out _ | exact BK677.out)) Tryd.underlying33 rfl (by kernel_rfl)) rfl ?_
      exact ⟨by first | rfl | (simp <;> rfl) | (simp [*] <;> rfl), by repeat (first | (with_reducible first | exact HB.out | apply below_alloc | apply pw_below_drewN | apply below_drew1 | refine below_set ?_ GE677.out | refine below_set ?_ GE685.out) | exact HB.out)⟩
     ·replace c7 := Bool.eq_false_iff.mpr c7
      subst c7
      have H1 : (quoinref04_Insn.l0 k1 a0 (Int.tmod a0 128) ((x5_1 + 1) % 256)) = some (r1, r2, r3, r4, r5, r6) := by rw [if_neg (show ¬ (false = true) by decide)] at H; exact H
      clear H
      have H := H1
      clear H1
      have H' := Aside0.mk H
      clear H
      go_wp2_with (first | ((with_reducible refine gate_callee (f := 68) rfl ?_); refine goesL_ (some 15) rfl rfl Tryd.func68 (by kernel_rfl) rfl #[.int .u8 x5_1] rfl (by (try simp only [List.map_toArray, List.map_cons, List.map_nil]); first | done | rfl) ?_; (with_reducible refine (quoinref03_Bits.calls k1 x5_1 t678 _ A4.out).mono ?_); rintro e w14 ⟨rfl, hb⟩; refine ⟨_, rfl, ?_⟩; have n0_ := Aside0.mk (blk_below (g := gb677) (o := .cells #[.int .u8 x678000_1, .int .i64 x678001_1, .int .i64 x678002_1, .int .i64 x678003_1, .int .i64 x678004_1] 33 (0, 0)) (bk BK677.out) hb); have n1_ := Aside0.mk (below_step (by repeat (first | (with_reducible first | exact HB.out | apply below_alloc | apply pw_below_drewN | apply below_drew1 | refine below_set ?_ GE677.out) | exact HB.out)) hb); clear BK677; clear HB; have BK677 := n0_; have HB := n1_; clear n0_ n1_; (try clear hb); (try clear hb2); (try clear hk); (try clear hi)) | ((with_reducible refine gate_callee (f := 70) rfl ?_); refine goesL_ (some 22) rfl rfl Tryd.func70 (by kernel_rfl) rfl #[.int .u8 x5_1, .int .u32 a0] rfl (by (try simp only [List.map_toArray, List.map_cons, List.map_nil]); first | done | rfl) ?_; (with_reducible refine (quoinref04_Read.calls k1 x5_1 a0 t679 t680 t681 t682 t683 false _ A6.out).mono ?_); rintro e w15 ⟨rfl, hb⟩; refine ⟨_, rfl, ?_⟩; have n0_ := Aside0.mk (blk_below (g := gb677) (o := .cells #[.int .u8 x678000_1, .int .i64 x678001_1, .int .i64 x678002_1, .int .i64 x678003_1, .int .i64 x678004_1] 33 (0, 0)) (bk BK677.out) hb); have n1_ := Aside0.mk (below_step (by repeat (first | (with_reducible first | exact HB.out | apply below_alloc | apply pw_below_drewN | apply below_drew1 | refine below_set ?_ GE677.out) | exact HB.out)) hb); clear BK677; clear HB; have BK677 := n0_; have HB := n1_; clear n0_ n1_; (try clear hb); (try clear hb2); (try clear hk); (try clear hi)) | ((with_reducible refine gate_dst (N := 6) rfl ?_); refine box_event ?hg (N := 6) ?hd (cs := #[.int .u8 0, .int .i64 0, .int .i64 0, .int .i64 0, .int .i64 0]) (t := 33) ?hr ?_; (case hd => rfl); (case hg => rfl); (case hr => first | (go_simp; done) | (go_simp; rfl)); intro gb685 hg w16 hbox hb; have n0_ := Aside0.mk (blk_below (g := gb677) (o := .cells #[.int .u8 x678000_1, .int .i64 x678001_1, .int .i64 x678002_1, .int .i64 x678003_1, .int .i64 x678004_1] 33 (0, 0)) (bk BK677.out) hb); have n1_ := Aside0.mk (below_step (by repeat (first | (with_reducible first | exact HB.out | apply below_alloc | apply pw_below_drewN | apply below_drew1 | refine below_set ?_ GE677.out) | exact HB.out)) hb); have n2_ := Aside0.mk (hbox); have n3_ := Aside0.mk ((by rw [hg]; exact (below_size (by repeat (first | (with_reducible first | exact HB.out | apply below_alloc | apply pw_below_drewN | apply below_drew1 | refine below_set ?_ GE677.out) | exact HB.out))) : w.heap.size ≤ gb685)); have n4_ := Aside0.mk ((by rw [hg]; exact (below_size (by repeat (first | (with_reducible first | exact HB.out | apply below_alloc | apply pw_below_drewN | apply below_drew1 | refine below_set ?_ GE677.out) | exact HB.out))) : w.heap.size ≤ gb685)); have n5_ := Aside0.mk ((by rw [hg]; exact Nat.ne_of_lt (blk_lt (g := gb677) (o := .cells #[.int .u8 x678000_1, .int .i64 x678001_1, .int .i64 x678002_1, .int .i64 x678003_1, .int .i64 x678004_1] 33 (0, 0)) (bk BK677.out)) : gb677 ≠ gb685)); have n6_ := Aside0.mk ((by rw [hg]; exact Nat.ne_of_gt (blk_lt (g := gb677) (o := .cells #[.int .u8 x678000_1, .int .i64 x678001_1, .int .i64 x678002_1, .int .i64 x678003_1, .int .i64 x678004_1] 33 (0, 0)) (bk BK677.out)) : gb685 ≠ gb677)); clear BK677; clear HB; have BK677 := n0_; have HB := n1_; have BK685 := n2_; have GW685 := n3_; have GE685 := n4_; have NB677_685 := n5_; have NB685_677 := n6_; clear n0_ n1_ n2_ n3_ n4_ n5_ n6_; clear hb hbox hg; have hnb17 := NB685_677.out; have hnc17 := NB677_685.out; obtain ⟨hcz18_0, hcz18_1, hcz18_2, hcz18_3, hcz18_4, hfz18_0, hfz18_1, hfz18_2, hfz18_3, hfz18_4⟩ := cells5 BK685.out))
      go_roundg k1
      case measure => have := HK1.out; omega
      case rel => exact ⟨((x5_1 + 1) % 256), (x678000_1), (x678001_1), (x678002_1), (x678003_1), (x678004_1), (by first | rfl | (simp; done) | (simp only [i64_w, i32_w]; first | done | rfl | (simp; done)) | (simp [*]; done)), H', ⟨by have := HK1.out; omega⟩, ⟨by repeat (first | (with_reducible first | exact BK677.out | refine blk_drewN ?_ _ | refine blk_drew ?_ | refine blk_alloc ?_ _) | refine blk_far ?_ NB677_685.out _ | exact BK677.out)⟩, ⟨by repeat (first | (with_reducible first | exact HB.out | apply below_alloc | apply pw_below_drewN | apply below_drew1 | refine below_set ?_ GE677.out | refine below_set ?_ GE685.out) | exact HB.out)⟩⟩
    ·rw [if_neg c5] at H
     have c5b0 := beq_eq_false_iff_ne.mpr c5
     have c5b1 := bne_iff_ne.mpr c5
     have H' := Aside0.mk H
     clear H
     go_wp2_with (first | ((with_reducible refine gate_callee (f := 68) rfl ?_); refine goesL_ (some 15) rfl rfl Tryd.func68 (by kernel_rfl) rfl #[.int .u8 x5_1] rfl (by (try simp only [List.map_toArray, List.map_cons, List.map_nil]); first | done | rfl) ?_; (with_reducible refine (quoinref03_Bits.calls k1 x5_1 t678 _ A4.out).mono ?_); rintro e w19 ⟨rfl, hb⟩; refine ⟨_, rfl, ?_⟩; have n0_ := Aside0.mk (blk_below (g := gb677) (o := .cells #[.int .u8 x678000_1, .int .i64 x678001_1, .int .i64 x678002_1, .int .i64 x678003_1, .int .i64 x678004_1] 33 (0, 0)) (bk BK677.out) hb); have n1_ := Aside0.mk (below_step (by repeat (first | (with_reducible first | exact HB.out | apply below_alloc | apply pw_below_drewN | apply below_drew1 | refine below_set ?_ GE677.out) | exact HB.out)) hb); clear BK677; clear HB; have BK677 := n0_; have HB := n1_; clear n0_ n1_; (try clear hb); (try clear hb2); (try clear hk); (try clear hi)))
     go_roundg k1
     case measure => have := HK1.out; omega
     case rel => exact ⟨((x5_1 + 1) % 256), (x678000_1), (x678001_1), (x678002_1), (x678003_1), (x678004_1), (by first | rfl | (simp; done) | (simp only [i64_w, i32_w]; first | done | rfl | (simp; done)) | (simp [*]; done)), H', ⟨by have := HK1.out; omega⟩, ⟨bk BK677.out⟩, ⟨by repeat (first | (with_reducible first | exact HB.out | apply below_alloc | apply pw_below_drewN | apply below_drew1 | refine below_set ?_ GE677.out) | exact HB.out)⟩⟩
   ·rw [if_neg c3] at H
    have c3b0 : decide (x5_1 ≤ 94) = false := decide_eq_false c3
    clear c3
    simp only [Option.some.injEq, Prod.mk.injEq] at H
    obtain ⟨rfl, rfl, rfl, rfl, rfl, rfl⟩ := H
    obtain ⟨hcz20_0, hcz20_1, hcz20_2, hcz20_3, hcz20_4, hfz20_0, hfz20_1, hfz20_2, hfz20_3, hfz20_4⟩ := cells5 BK677.out
    go_wp2
    refine bodyPost_ret (results_ct rfl _ _ gb677 33 #[.int .u8 0, .int .i64 0, .int .i64 0, .int .i64 0, .int .i64 0] (0, 0) _ rfl (by (with_reducible repeat (first | refine blk_drewN ?_ _ | refine blk_drew ?_ | refine blk_alloc ?_ _)); refine blk_put (cs := #[.int .u8 0, .int .i64 0, .int .i64 0, .int .i64 0, .int .i64 x678004_1]) ?_ 4 _ rfl; (with_reducible repeat (first | refine blk_drewN ?_ _ | refine blk_drew ?_ | refine blk_alloc ?_ _)); refine blk_put (cs := #[.int .u8 0, .int .i64 0, .int .i64 0, .int .i64 x678003_1, .int .i64 x678004_1]) ?_ 3 _ rfl; (with_reducible repeat (first | refine blk_drewN ?_ _ | refine blk_drew ?_ | refine blk_alloc ?_ _)); refine blk_put (cs := #[.int .u8 0, .int .i64 0, .int .i64 x678002_1, .int .i64 x678003_1, .int .i64 x678004_1]) ?_ 2 _ rfl; (with_reducible repeat (first | refine blk_drewN ?_ _ | refine blk_drew ?_ | refine blk_alloc ?_ _)); refine blk_put (cs := #[.int .u8 0, .int .i64 x678001_1, .int .i64 x678002_1, .int .i64 x678003_1, .int .i64 x678004_1]) ?_ 1 _ rfl; (with_reducible repeat (first | refine blk_drewN ?_ _ | refine blk_drew ?_ | refine blk_alloc ?_ _)); refine blk_put (cs := #[.int .u8 x678000_1, .int .i64 x678001_1, .int .i64 x678002_1, .int .i64 x678003_1, .int .i64 x678004_1]) ?_ 0 _ rfl; (with_reducible repeat (first | refine blk_drewN ?_ _ | refine blk_drew ?_ | refine blk_alloc ?_ _)); exact BK677.out) Tryd.underlying33 rfl (by kernel_rfl)) rfl ?_
    exact ⟨by first | rfl | (simp <;> rfl) | (simp [*] <;> rfl), by repeat (first | (with_reducible first | exact HB.out | apply below_alloc | apply pw_below_drewN | apply below_drew1 | refine below_set ?_ GE677.out) | exact HB.out)⟩

/-! ### quoinref04_Fixed: function 51 -/
mutual
def quoinref04_Fixed.l0 : Nat → List Int → Bool → Bool → Bool → Int → Int → Option (Int × Int)
 | 0, _, _, _, _, _, _ => none
 | k + 1, x4, x6, x7, x8, x9, x10 => if x10 < 32 then (if x6 = true then (if x10 ≥ 7 then (if x10 ≤ 11 then (quoinref04_Fixed.j1 k x4 x6 x7 x8 x9 x10 true) else (if x7 = true then (if x10 ≥ 15 then (if x10 ≤ 19 then (quoinref04_Fixed.j1 k x4 x6 x7 x8 x9 x10 true) else (if x8 = true then (if x10 ≥ 20 then (quoinref04_Fixed.j1 k x4 x6 x7 x8 x9 x10 (decide (x10 ≤ 24))) else (quoinref04_Fixed.j1 k x4 x6 x7 x8 x9 x10 false)) else (quoinref04_Fixed.j1 k x4 x6 x7 x8 x9 x10 false))) else (if x8 = true then (if x10 ≥ 20 then (quoinref04_Fixed.j1 k x4 x6 x7 x8 x9 x10 (decide (x10 ≤ 24))) else (quoinref04_Fixed.j1 k x4 x6 x7 x8 x9 x10 false)) else (quoinref04_Fixed.j1 k x4 x6 x7 x8 x9 x10 false))) else (if x8 = true then (if x10 ≥ 20 then (quoinref04_Fixed.j1 k x4 x6 x7 x8 x9 x10 (decide (x10 ≤ 24))) else (quoinref04_Fixed.j1 k x4 x6 x7 x8 x9 x10 false)) else (quoinref04_Fixed.j1 k x4 x6 x7 x8 x9 x10 false)))) else (if x7 = true then (if x10 ≥ 15 then (if x10 ≤ 19 then (quoinref04_Fixed.j1 k x4 x6 x7 x8 x9 x10 true) else (if x8 = true then (if x10 ≥ 20 then (quoinref04_Fixed.j1 k x4 x6 x7 x8 x9 x10 (decide (x10 ≤ 24))) else (quoinref04_Fixed.j1 k x4 x6 x7 x8 x9 x10 false)) else (quoinref04_Fixed.j1 k x4 x6 x7 x8 x9 x10 false))) else (if x8 = true then (if x10 ≥ 20 then (quoinref04_Fixed.j1 k x4 x6 x7 x8 x9 x10 (decide (x10 ≤ 24))) else (quoinref04_Fixed.j1 k x4 x6 x7 x8 x9 x10 false)) else (quoinref04_Fixed.j1 k x4 x6 x7 x8 x9 x10 false))) else (if x8 = true then (if x10 ≥ 20 then (quoinref04_Fixed.j1 k x4 x6 x7 x8 x9 x10 (decide (x10 ≤ 24))) else (quoinref04_Fixed.j1 k x4 x6 x7 x8 x9 x10 false)) else (quoinref04_Fixed.j1 k x4 x6 x7 x8 x9 x10 false)))) else (if x7 = true then (if x10 ≥ 15 then (if x10 ≤ 19 then (quoinref04_Fixed.j1 k x4 x6 x7 x8 x9 x10 true) else (if x8 = true then (if x10 ≥ 20 then (quoinref04_Fixed.j1 k x4 x6 x7 x8 x9 x10 (decide (x10 ≤ 24))) else (quoinref04_Fixed.j1 k x4 x6 x7 x8 x9 x10 false)) else (quoinref04_Fixed.j1 k x4 x6 x7 x8 x9 x10 false))) else (if x8 = true then (if x10 ≥ 20 then (quoinref04_Fixed.j1 k x4 x6 x7 x8 x9 x10 (decide (x10 ≤ 24))) else (quoinref04_Fixed.j1 k x4 x6 x7 x8 x9 x10 false)) else (quoinref04_Fixed.j1 k x4 x6 x7 x8 x9 x10 false))) else (if x8 = true then (if x10 ≥ 20 then (quoinref04_Fixed.j1 k x4 x6 x7 x8 x9 x10 (decide (x10 ≤ 24))) else (quoinref04_Fixed.j1 k x4 x6 x7 x8 x9 x10 false)) else (quoinref04_Fixed.j1 k x4 x6 x7 x8 x9 x10 false)))) else (some (x9, 0))
def quoinref04_Fixed.j1 : Nat → List Int → Bool → Bool → Bool → Int → Int → Bool → Option (Int × Int)
 | 0, _, _, _, _, _, _, _ => none
 | k + 1, x4, x6, x7, x8, x9, x10, x11 => quoinref04_Fixed.l1 k x4 x6 x7 x8 x9 x10 x11 0
def quoinref04_Fixed.l1 : Nat → List Int → Bool → Bool → Bool → Int → Int → Bool → Int → Option (Int × Int)
 | 0, _, _, _, _, _, _, _, _ => none
 | k + 1, x4, x6, x7, x8, x9, x10, x11, x12 => if x12 < (x4.length : Int) then (if 0 ≤ x12 then (if (rd x4 x12) = x10 then (quoinref04_Fixed.l1 k x4 x6 x7 x8 x9 x10 true (wrap64 (x12 + 1))) else (quoinref04_Fixed.l1 k x4 x6 x7 x8 x9 x10 x11 (wrap64 (x12 + 1)))) else (none)) else (if x11 = true then (quoinref04_Fixed.l0 k x4 x6 x7 x8 x9 (wrap64 (x10 + 1))) else ((quoinref01_Two.f k x10).bind fun t694 => (quoinref04_Fixed.l0 k x4 x6 x7 x8 ((x9 + ((t694) % 4294967296)) % 4294967296) (wrap64 (x10 + 1)))))
end
def quoinref04_Fixed.f (k : Nat) (a0 : Int) : Option (Int × Int) := (quoinref03_Places.f k a0).bind fun bt686 => (if bt686.2 = 0 then ((quoinref04_has.f k a0).bind fun bt690 => (quoinref04_Fixed.l0 k bt686.1 bt690.1 bt690.2.1 bt690.2.2 0 0)) else (some (0, 2)))
theorem quoinref04_Fixed.mono_l : ∀ k, (∀ y0 y1 y2 y3 y4 y5, LeO (quoinref04_Fixed.l0 k y0 y1 y2 y3 y4 y5) (quoinref04_Fixed.l0 (k + 1) y0 y1 y2 y3 y4 y5)) ∧ (∀ y0 y1 y2 y3 y4 y5 y6, LeO (quoinref04_Fixed.j1 k y0 y1 y2 y3 y4 y5 y6) (quoinref04_Fixed.j1 (k + 1) y0 y1 y2 y3 y4 y5 y6)) ∧ (∀ y0 y1 y2 y3 y4 y5 y6 y7, LeO (quoinref04_Fixed.l1 k y0 y1 y2 y3 y4 y5 y6 y7) (quoinref04_Fixed.l1 (k + 1) y0 y1 y2 y3 y4 y5 y6 y7))
 | 0 => ⟨fun _ _ _ _ _ _ r h => by simp [quoinref04_Fixed.l0] at h, fun _ _ _ _ _ _ _ r h => by simp [quoinref04_Fixed.j1] at h, fun _ _ _ _ _ _ _ _ r h => by simp [quoinref04_Fixed.l1] at h⟩
 | k + 1 => by
  obtain ⟨ih0, ih1, ih2⟩ := quoinref04_Fixed.mono_l k
  refine ⟨?_, ?_, ?_⟩
  ·intro y0 y1 y2 y3 y4 y5
   unfold quoinref04_Fixed.l0
   repeat' first
   | (with_reducible exact ih0 _ _ _ _ _ _)
   | (with_reducible exact ih1 _ _ _ _ _ _ _)
   | (with_reducible exact ih2 _ _ _ _ _ _ _ _)
   | (with_reducible exact quoinref01_Two.mono _ _)
   | (with_reducible exact quoinref03_Places.mono _ _)
   | (with_reducible exact quoinref04_has.mono _ _)
   | (with_reducible exact LeO.refl _)
   | (with_reducible exact LeO.none _)
   | (with_reducible refine LeO.ite ?_ ?_)
   | (with_reducible refine LeO.bind ?_ (fun _ => ?_))
   | exact LeO.none _
   | refine LeO.ite ?_ ?_
   | refine LeO.bind ?_ (fun _ => ?_)
  ·intro y0 y1 y2 y3 y4 y5 y6
   unfold quoinref04_Fixed.j1
   repeat' first
   | (with_reducible exact ih0 _ _ _ _ _ _)
   | (with_reducible exact ih1 _ _ _ _ _ _ _)
   | (with_reducible exact ih2 _ _ _ _ _ _ _ _)
   | (with_reducible exact quoinref01_Two.mono _ _)
   | (with_reducible exact quoinref03_Places.mono _ _)
   | (with_reducible exact quoinref04_has.mono _ _)
   | (with_reducible exact LeO.refl _)
   | (with_reducible exact LeO.none _)
   | (with_reducible refine LeO.ite ?_ ?_)
   | (with_reducible refine LeO.bind ?_ (fun _ => ?_))
   | exact LeO.none _
   | refine LeO.ite ?_ ?_
   | refine LeO.bind ?_ (fun _ => ?_)
  ·intro y0 y1 y2 y3 y4 y5 y6 y7
   unfold quoinref04_Fixed.l1
   repeat' first
   | (with_reducible exact ih0 _ _ _ _ _ _)
   | (with_reducible exact ih1 _ _ _ _ _ _ _)
   | (with_reducible exact ih2 _ _ _ _ _ _ _ _)
   | (with_reducible exact quoinref01_Two.mono _ _)
   | (with_reducible exact quoinref03_Places.mono _ _)
   | (with_reducible exact quoinref04_has.mono _ _)
   | (with_reducible exact LeO.refl _)
   | (with_reducible exact LeO.none _)
   | (with_reducible refine LeO.ite ?_ ?_)
   | (with_reducible refine LeO.bind ?_ (fun _ => ?_))
   | exact LeO.none _
   | refine LeO.ite ?_ ?_
   | refine LeO.bind ?_ (fun _ => ?_)
theorem quoinref04_Fixed.mono : ∀ a0 k, LeO (quoinref04_Fixed.f k a0) (quoinref04_Fixed.f (k + 1) a0) := by
 intro a0 k
 obtain ⟨ih0, ih1, ih2⟩ := quoinref04_Fixed.mono_l k
 unfold quoinref04_Fixed.f
 repeat' first
   | (with_reducible exact ih0 _ _ _ _ _ _)
   | (with_reducible exact ih1 _ _ _ _ _ _ _)
   | (with_reducible exact ih2 _ _ _ _ _ _ _ _)
   | (with_reducible exact quoinref01_Two.mono _ _)
   | (with_reducible exact quoinref03_Places.mono _ _)
   | (with_reducible exact quoinref04_has.mono _ _)
   | (with_reducible exact LeO.refl _)
   | (with_reducible exact LeO.none _)
   | (with_reducible refine LeO.ite ?_ ?_)
   | (with_reducible refine LeO.bind ?_ (fun _ => ?_))
   | exact LeO.none _
   | refine LeO.ite ?_ ?_
   | refine LeO.bind ?_ (fun _ => ?_)
set_option maxHeartbeats 8000000 in
set_option maxRecDepth 100000 in
theorem quoinref04_Fixed.calls (k : Nat) (a0 : Int) (r1 : Int) (r2 : Int) (w : World) (h : quoinref04_Fixed.f k a0 = some (r1, r2)) :
  Calls Tryd.prog 51 #[.int .u8 a0] w fun e w' => e = .returned (.tuple #[.int .u32 r1, .int .i64 r2]) ∧ Below w.heap.size w w' := by
 have HB := Aside0.mk (Below.refl w.heap.size w)
 have H : ((quoinref03_Places.f k a0).bind fun bt686 => (if bt686.2 = 0 then ((quoinref04_has.f k a0).bind fun bt690 => (quoinref04_Fixed.l0 k bt686.1 bt690.1 bt690.2.1 bt690.2.2 0 0)) else (some (0, 2)))) = some (r1, r2) := h
 clear h
 replace H := Option.bind_eq_some_iff.mp H
 obtain ⟨⟨t686, t687⟩, A20, H⟩ := H
 have A2 := Aside0.mk A20
 clear A20
 by_cases c3 : t687 = 0
 ·rw [if_pos c3] at H
  have c3b0 := beq_iff_eq.mpr c3
  have c3b1 := bne_eq_false_iff_eq.mpr c3
  clear c3
  replace H := Option.bind_eq_some_iff.mp H
  obtain ⟨⟨t690, t691, t692⟩, A40, H⟩ := H
  have A4 := Aside0.mk A40
  clear A40
  have H' := Aside0.mk H
  clear H
  go_enter Tryd.func51, Tryd.ntmps51
  go_wp2_with (first | ((with_reducible refine gate_callee (f := 48) rfl ?_); refine goesL_ (some 15) rfl rfl Tryd.func48 (by kernel_rfl) rfl #[.int .u8 a0] rfl (by (try simp only [List.map_toArray, List.map_cons, List.map_nil]); first | done | rfl) ?_; (with_reducible refine (quoinref03_Places.calls k a0 t686 t687 _ A2.out).mono ?_); rintro e w5 ⟨v688, rfl, ho0, hb⟩; refine ⟨_, rfl, ?_⟩; have n0_ := Aside0.mk (Kd.R_lower ho0 (below_size (bl HB.out))); have n1_ := Aside0.mk (below_step (bl HB.out) hb); clear HB; have HO689 := n0_; have HB := n1_; clear n0_ n1_; (try clear hb); (try clear hb2); (try clear hk); (try clear hi); (try clear ho0)) | ((with_reducible refine gate_callee (f := 71) rfl ?_); refine goesL_ (some 22) rfl rfl Tryd.func71 (by kernel_rfl) rfl #[.int .u8 a0] rfl (by (try simp only [List.map_toArray, List.map_cons, List.map_nil]); first | done | rfl) ?_; (with_reducible refine (quoinref04_has.calls k a0 t690 t691 t692 _ A4.out).mono ?_); rintro e w6 ⟨rfl, hb⟩; refine ⟨_, rfl, ?_⟩; have n0_ := Aside0.mk (Kd.R_below (rm HO689.out) hb); have n1_ := Aside0.mk (below_step (bl HB.out) hb); clear HO689; clear HB; have HO689 := n0_; have HB := n1_; clear n0_ n1_; (try clear hb); (try clear hb2); (try clear hk); (try clear hi)))
  go_loopg [9, 10] k (fun kq v9 v10 w' => ∃ (x9_1 : Int) (x10_1 : Int), v9 = .int .u32 x9_1 ∧ v10 = .int .i64 x10_1 ∧ Aside0 (quoinref04_Fixed.l0 kq t686 t690 t691 t692 x9_1 x10_1 = some (r1, r2)) ∧ Aside0 (kq ≤ k) ∧ Aside0 (Kd.R (Kd.int .i64) 3 w' w.heap.size (fun _ => True) v688 t686) ∧ Aside0 (Below w.heap.size w w'))
  case atStart => exact ⟨(0), (0), (by first | rfl | (simp; done) | (simp only [i64_w, i32_w]; first | done | rfl | (simp; done)) | (simp [*]; done)), (by first | rfl | (simp; done) | (simp only [i64_w, i32_w]; first | done | rfl | (simp; done)) | (simp [*]; done)), H', ⟨Nat.le_refl _⟩, ⟨rm HO689.out⟩, ⟨bl HB.out⟩⟩
  case round =>
   clear H'
   try clear p2
   try clear c3
   try clear c3b0
   try clear c3b1
   try clear c4
   try clear c5
   obtain ⟨x9_1, x10_1, rfl, rfl, HA, HK1, HO_4, HB⟩ := hrel
   cases gk with
   | zero => exact absurd HA.out (by simp [quoinref04_Fixed.l0])
   | succ k1 =>
    have H := HA.out
    clear HA
    simp only [quoinref04_Fixed.l0] at H
    by_cases c7 : x10_1 < 32
    ·rw [if_pos c7] at H
     have c7b0 : decide (x10_1 < 32) = true := decide_eq_true c7
     clear c7
     have HC8 := Aside0.mk H
     clear H
     go_upto_region 9 with (fail)
     go_cut [11] (fun v11 wc => ∃ (kq : Nat) (x11_7 : Bool), v11 = .bool x11_7 ∧ Aside0 (quoinref04_Fixed.j1 kq t686 t690 t691 t692 x9_1 x10_1 x11_7 = some (r1, r2)) ∧ Aside0 (kq ≤ k1) ∧ Aside0 (Kd.R (Kd.int .i64) 3 wc w.heap.size (fun _ => True) v688 t686) ∧ Aside0 (Below w.heap.size w wc))
     case first =>
      have H := HC8.out
      clear HC8
      by_cases c9 : t690 = true
      ·subst c9
       have H1 : (if x10_1 ≥ 7 then (if x10_1 ≤ 11 then (quoinref04_Fixed.j1 k1 t686 true t691 t692 x9_1 x10_1 true) else (if t691 = true then (if x10_1 ≥ 15 then (if x10_1 ≤ 19 then (quoinref04_Fixed.j1 k1 t686 true t691 t692 x9_1 x10_1 true) else (if t692 = true then (if x10_1 ≥ 20 then (quoinref04_Fixed.j1 k1 t686 true t691 t692 x9_1 x10_1 (decide (x10_1 ≤ 24))) else (quoinref04_Fixed.j1 k1 t686 true t691 t692 x9_1 x10_1 false)) else (quoinref04_Fixed.j1 k1 t686 true t691 t692 x9_1 x10_1 false))) else (if t692 = true then (if x10_1 ≥ 20 then (quoinref04_Fixed.j1 k1 t686 true t691 t692 x9_1 x10_1 (decide (x10_1 ≤ 24))) else (quoinref04_Fixed.j1 k1 t686 true t691 t692 x9_1 x10_1 false)) else (quoinref04_Fixed.j1 k1 t686 true t691 t692 x9_1 x10_1 false))) else (if t692 = true then (if x10_1 ≥ 20 then (quoinref04_Fixed.j1 k1 t686 true t691 t692 x9_1 x10_1 (decide (x10_1 ≤ 24))) else (quoinref04_Fixed.j1 k1 t686 true t691 t692 x9_1 x10_1 false)) else (quoinref04_Fixed.j1 k1 t686 true t691 t692 x9_1 x10_1 false)))) else (if t691 = true then (if x10_1 ≥ 15 then (if x10_1 ≤ 19 then (quoinref04_Fixed.j1 k1 t686 true t691 t692 x9_1 x10_1 true) else (if t692 = true then (if x10_1 ≥ 20 then (quoinref04_Fixed.j1 k1 t686 true t691 t692 x9_1 x10_1 (decide (x10_1 ≤ 24))) else (quoinref04_Fixed.j1 k1 t686 true t691 t692 x9_1 x10_1 false)) else (quoinref04_Fixed.j1 k1 t686 true t691 t692 x9_1 x10_1 false))) else (if t692 = true then (if x10_1 ≥ 20 then (quoinref04_Fixed.j1 k1 t686 true t691 t692 x9_1 x10_1 (decide (x10_1 ≤ 24))) else (quoinref04_Fixed.j1 k1 t686 true t691 t692 x9_1 x10_1 false)) else (quoinref04_Fixed.j1 k1 t686 true t691 t692 x9_1 x10_1 false))) else (if t692 = true then (if x10_1 ≥ 20 then (quoinref04_Fixed.j1 k1 t686 true t691 t692 x9_1 x10_1 (decide (x10_1 ≤ 24))) else (quoinref04_Fixed.j1 k1 t686 true t691 t692 x9_1 x10_1 false)) else (quoinref04_Fixed.j1 k1 t686 true t691 t692 x9_1 x10_1 false)))) = some (r1, r2) := by rw [if_pos rfl] at H; exact H
       clear H
       have H := H1
       clear H1
       by_cases c10 : x10_1 ≥ 7
       ·rw [if_pos c10] at H
        have c10b0 : decide (7 ≤ x10_1) = true := decide_eq_true c10
        clear c10
        (first | rw [c10b0] | (simp only [i64_w, i32_w]; rw [c10b0]) | rw [c10b1] | skip)
        by_cases c11 : x10_1 ≤ 11
        ·rw [if_pos c11] at H
         have c11b0 : decide (x10_1 ≤ 11) = true := decide_eq_true c11
         clear c11
         have H' := Aside0.mk H
         clear H
         go_wp2
         go_meet
         case rel => exact ⟨_, (true), (by first | rfl | (simp; done) | (simp only [i64_w, i32_w]; first | done | rfl | (simp; done)) | (simp [*]; done)), H', ⟨by have := HK1.out; first | omega | exact Nat.le_refl _⟩, ⟨rm HO_4.out⟩, ⟨bl HB.out⟩⟩
        ·rw [if_neg c11] at H
         have c11b0 : decide (x10_1 ≤ 11) = false := decide_eq_false c11
         clear c11
         by_cases c12 : t691 = true
         ·subst c12
          have H1 : (if x10_1 ≥ 15 then (if x10_1 ≤ 19 then (quoinref04_Fixed.j1 k1 t686 true true t692 x9_1 x10_1 true) else (if t692 = true then (if x10_1 ≥ 20 then (quoinref04_Fixed.j1 k1 t686 true true t692 x9_1 x10_1 (decide (x10_1 ≤ 24))) else (quoinref04_Fixed.j1 k1 t686 true true t692 x9_1 x10_1 false)) else (quoinref04_Fixed.j1 k1 t686 true true t692 x9_1 x10_1 false))) else (if t692 = true then (if x10_1 ≥ 20 then (quoinref04_Fixed.j1 k1 t686 true true t692 x9_1 x10_1 (decide (x10_1 ≤ 24))) else (quoinref04_Fixed.j1 k1 t686 true true t692 x9_1 x10_1 false)) else (quoinref04_Fixed.j1 k1 t686 true true t692 x9_1 x10_1 false))) = some (r1, r2) := by rw [if_pos rfl] at H; exact H
          clear H
          have H := H1
          clear H1
          by_cases c13 : x10_1 ≥ 15
          ·rw [if_pos c13] at H
           have c13b0 : decide (15 ≤ x10_1) = true := decide_eq_true c13
           clear c13
           by_cases c14 : x10_1 ≤ 19
           ·rw [if_pos c14] at H
            have c14b0 : decide (x10_1 ≤ 19) = true := decide_eq_true c14
            clear c14
            have H' := Aside0.mk H
            clear H
            go_wp2
            go_meet
            case rel => exact ⟨_, (true), (by first | rfl | (simp; done) | (simp only [i64_w, i32_w]; first | done | rfl | (simp; done)) | (simp [*]; done)), H', ⟨by have := HK1.out; first | omega | exact Nat.le_refl _⟩, ⟨rm HO_4.out⟩, ⟨bl HB.out⟩⟩
           ·rw [if_neg c14] at H
            have c14b0 : decide (x10_1 ≤ 19) = false := decide_eq_false c14
            clear c14
            by_cases c15 : t692 = true
            ·subst c15
             have H1 : (if x10_1 ≥ 20 then (quoinref04_Fixed.j1 k1 t686 true true true x9_1 x10_1 (decide (x10_1 ≤ 24))) else (quoinref04_Fixed.j1 k1 t686 true true true x9_1 x10_1 false)) = some (r1, r2) := by rw [if_pos rfl] at H; exact H
             clear H
             have H := H1
             clear H1
             by_cases c16 : x10_1 ≥ 20
             ·rw [if_pos c16] at H
              have c16b0 : decide (20 ≤ x10_1) = true := decide_eq_true c16
              clear c16
              have H' := Aside0.mk H
              clear H
              go_wp2
              go_meet
              case rel => exact ⟨_, (decide (x10_1 ≤ 24)), (by first | rfl | (simp; done) | (simp only [i64_w, i32_w]; first | done | rfl | (simp; done)) | (simp [*]; done)), H', ⟨by have := HK1.out; first | omega | exact Nat.le_refl _⟩, ⟨rm HO_4.out⟩, ⟨bl HB.out⟩⟩
             ·rw [if_neg c16] at H
              have c16b0 : decide (20 ≤ x10_1) = false := decide_eq_false c16
              clear c16
              have H' := Aside0.mk H
              clear H
              go_wp2
              go_meet
              case rel => exact ⟨_, (false), (by first | rfl | (simp; done) | (simp only [i64_w, i32_w]; first | done | rfl | (simp; done)) | (simp [*]; done)), H', ⟨by have := HK1.out; first | omega | exact Nat.le_refl _⟩, ⟨rm HO_4.out⟩, ⟨bl HB.out⟩⟩
            ·replace c15 := Bool.eq_false_iff.mpr c15
             subst c15
             have H1 : (quoinref04_Fixed.j1 k1 t686 true true false x9_1 x10_1 false) = some (r1, r2) := by rw [if_neg (show ¬ (false = true) by decide)] at H; exact H
             clear H
             have H := H1
             clear H1
             have H' := Aside0.mk H
             clear H
             go_wp2
             go_meet
             case rel => exact ⟨_, (false), (by first | rfl | (simp; done) | (simp only [i64_w, i32_w]; first | done | rfl | (simp; done)) | (simp [*]; done)), H', ⟨by have := HK1.out; first | omega | exact Nat.le_refl _⟩, ⟨rm HO_4.out⟩, ⟨bl HB.out⟩⟩
          ·rw [if_neg c13] at H
           have c13b0 : decide (15 ≤ x10_1) = false := decide_eq_false c13
           clear c13
           by_cases c17 : t692 = true
           ·subst c17
            have H1 : (if x10_1 ≥ 20 then (quoinref04_Fixed.j1 k1 t686 true true true x9_1 x10_1 (decide (x10_1 ≤ 24))) else (quoinref04_Fixed.j1 k1 t686 true true true x9_1 x10_1 false)) = some (r1, r2) := by rw [if_pos rfl] at H; exact H
            clear H
            have H := H1
            clear H1
            by_cases c18 : x10_1 ≥ 20
            ·rw [if_pos c18] at H
             have c18b0 : decide (20 ≤ x10_1) = true := decide_eq_true c18
             clear c18
             have H' := Aside0.mk H
             clear H
             go_wp2
             go_meet
             case rel => exact ⟨_, (decide (x10_1 ≤ 24)), (by first | rfl | (simp; done) | (simp only [i64_w, i32_w]; first | done | rfl | (simp; done)) | (simp [*]; done)), H', ⟨by have := HK1.out; first | omega | exact Nat.le_refl _⟩, ⟨rm HO_4.out⟩, ⟨bl HB.out⟩⟩
            ·rw [if_neg c18] at H
             have c18b0 : decide (20 ≤ x10_1) = false := decide_eq_false c18
             clear c18
             have H' := Aside0.mk H
             clear H
             go_wp2
             go_meet
             case rel => exact ⟨_, (false), (by first | rfl | (simp; done) | (simp only [i64_w, i32_w]; first | done | rfl | (simp; done)) | (simp [*]; done)), H', ⟨by have := HK1.out; first | omega | exact Nat.le_refl _⟩, ⟨rm HO_4.out⟩, ⟨bl HB.out⟩⟩
           ·replace c17 := Bool.eq_false_iff.mpr c17
            subst c17
            have H1 : (quoinref04_Fixed.j1 k1 t686 true true false x9_1 x10_1 false) = some (r1, r2) := by rw [if_neg (show ¬ (false = true) by decide)] at H; exact H
            clear H
            have H := H1
            clear H1
            have H' := Aside0.mk H
            clear H
            go_wp2
            go_meet
            case rel => exact ⟨_, (false), (by first | rfl | (simp; done) | (simp only [i64_w, i32_w]; first | done | rfl | (simp; done)) | (simp [*]; done)), H', ⟨by have := HK1.out; first | omega | exact Nat.le_refl _⟩, ⟨rm HO_4.out⟩, ⟨bl HB.out⟩⟩
         ·replace c12 := Bool.eq_false_iff.mpr c12
          subst c12
          have H1 : (if t692 = true then (if x10_1 ≥ 20 then (quoinref04_Fixed.j1 k1 t686 true false t692 x9_1 x10_1 (decide (x10_1 ≤ 24))) else (quoinref04_Fixed.j1 k1 t686 true false t692 x9_1 x10_1 false)) else (quoinref04_Fixed.j1 k1 t686 true false t692 x9_1 x10_1 false)) = some (r1, r2) := by rw [if_neg (show ¬ (false = true) by decide)] at H; exact H
          clear H
          have H := H1
          clear H1
          by_cases c19 : t692 = true
          ·subst c19
           have H1 : (if x10_1 ≥ 20 then (quoinref04_Fixed.j1 k1 t686 true false true x9_1 x10_1 (decide (x10_1 ≤ 24))) else (quoinref04_Fixed.j1 k1 t686 true false true x9_1 x10_1 false)) = some (r1, r2) := by rw [if_pos rfl] at H; exact H
           clear H
           have H := H1
           clear H1
           by_cases c20 : x10_1 ≥ 20
           ·rw [if_pos c20] at H
            have c20b0 : decide (20 ≤ x10_1) = true := decide_eq_true c20
            clear c20
            have H' := Aside0.mk H
            clear H
            go_wp2
            go_meet
            case rel => exact ⟨_, (decide (x10_1 ≤ 24)), (by first | rfl | (simp; done) | (simp only [i64_w, i32_w]; first | done | rfl | (simp; done)) | (simp [*]; done)), H', ⟨by have := HK1.out; first | omega | exact Nat.le_refl _⟩, ⟨rm HO_4.out⟩, ⟨bl HB.out⟩⟩
           ·rw [if_neg c20] at H
            have c20b0 : decide (20 ≤ x10_1) = false := decide_eq_false c20
            clear c20
            have H' := Aside0.mk H
            clear H
            go_wp2
            go_meet
            case rel => exact ⟨_, (false), (by first | rfl | (simp; done) | (simp only [i64_w, i32_w]; first | done | rfl | (simp; done)) | (simp [*]; done)), H', ⟨by have := HK1.out; first | omega | exact Nat.le_refl _⟩, ⟨rm HO_4.out⟩, ⟨bl HB.out⟩⟩
          ·replace c19 := Bool.eq_false_iff.mpr c19
           subst c19
           have H1 : (quoinref04_Fixed.j1 k1 t686 true false false x9_1 x10_1 false) = some (r1, r2) := by rw [if_neg (show ¬ (false = true) by decide)] at H; exact H
           clear H
           have H := H1
           clear H1
           have H' := Aside0.mk H
           clear H
           go_wp2
           go_meet
           case rel => exact ⟨_, (false), (by first | rfl | (simp; done) | (simp only [i64_w, i32_w]; first | done | rfl | (simp; done)) | (simp [*]; done)), H', ⟨by have := HK1.out; first | omega | exact Nat.le_refl _⟩, ⟨rm HO_4.out⟩, ⟨bl HB.out⟩⟩
       ·rw [if_neg c10] at H
        have c10b0 : decide (7 ≤ x10_1) = false := decide_eq_false c10
        clear c10
        (first | rw [c10b0] | (simp only [i64_w, i32_w]; rw [c10b0]) | rw [c10b1] | skip)
        by_cases c21 : t691 = true
        ·subst c21
         have H1 : (if x10_1 ≥ 15 then (if x10_1 ≤ 19 then (quoinref04_Fixed.j1 k1 t686 true true t692 x9_1 x10_1 true) else (if t692 = true then (if x10_1 ≥ 20 then (quoinref04_Fixed.j1 k1 t686 true true t692 x9_1 x10_1 (decide (x10_1 ≤ 24))) else (quoinref04_Fixed.j1 k1 t686 true true t692 x9_1 x10_1 false)) else (quoinref04_Fixed.j1 k1 t686 true true t692 x9_1 x10_1 false))) else (if t692 = true then (if x10_1 ≥ 20 then (quoinref04_Fixed.j1 k1 t686 true true t692 x9_1 x10_1 (decide (x10_1 ≤ 24))) else (quoinref04_Fixed.j1 k1 t686 true true t692 x9_1 x10_1 false)) else (quoinref04_Fixed.j1 k1 t686 true true t692 x9_1 x10_1 false))) = some (r1, r2) := by rw [if_pos rfl] at H; exact H
         clear H
         have H := H1
         clear H1
         by_cases c22 : x10_1 ≥ 15
         ·rw [if_pos c22] at H
          have c22b0 : decide (15 ≤ x10_1) = true := decide_eq_true c22
          clear c22
          by_cases c23 : x10_1 ≤ 19
          ·rw [if_pos c23] at H
           have c23b0 : decide (x10_1 ≤ 19) = true := decide_eq_true c23
           clear c23
           have H' := Aside0.mk H
           clear H
           go_wp2
           go_meet
           case rel => exact ⟨_, (true), (by first | rfl | (simp; done) | (simp only [i64_w, i32_w]; first | done | rfl | (simp; done)) | (simp [*]; done)), H', ⟨by have := HK1.out; first | omega | exact Nat.le_refl _⟩, ⟨rm HO_4.out⟩, ⟨bl HB.out⟩⟩
          ·rw [if_neg c23] at H
           have c23b0 : decide (x10_1 ≤ 19) = false := decide_eq_false c23
           clear c23
           by_cases c24 : t692 = true
           ·subst c24
            have H1 : (if x10_1 ≥ 20 then (quoinref04_Fixed.j1 k1 t686 true true true x9_1 x10_1 (decide (x10_1 ≤ 24))) else (quoinref04_Fixed.j1 k1 t686 true true true x9_1 x10_1 false)) = some (r1, r2) := by rw [if_pos rfl] at H; exact H
            clear H
            have H := H1
            clear H1
            by_cases c25 : x10_1 ≥ 20
            ·rw [if_pos c25] at H
             have c25b0 : decide (20 ≤ x10_1) = true := decide_eq_true c25
             clear c25
             have H' := Aside0.mk H
             clear H
             go_wp2
             go_meet
             case rel => exact ⟨_, (decide (x10_1 ≤ 24)), (by first | rfl | (simp; done) | (simp only [i64_w, i32_w]; first | done | rfl | (simp; done)) | (simp [*]; done)), H', ⟨by have := HK1.out; first | omega | exact Nat.le_refl _⟩, ⟨rm HO_4.out⟩, ⟨bl HB.out⟩⟩
            ·rw [if_neg c25] at H
             have c25b0 : decide (20 ≤ x10_1) = false := decide_eq_false c25
             clear c25
             have H' := Aside0.mk H
             clear H
             go_wp2
             go_meet
             case rel => exact ⟨_, (false), (by first | rfl | (simp; done) | (simp only [i64_w, i32_w]; first | done | rfl | (simp; done)) | (simp [*]; done)), H', ⟨by have := HK1.out; first | omega | exact Nat.le_refl _⟩, ⟨rm HO_4.out⟩, ⟨bl HB.out⟩⟩
           ·replace c24 := Bool.eq_false_iff.mpr c24
            subst c24
            have H1 : (quoinref04_Fixed.j1 k1 t686 true true false x9_1 x10_1 false) = some (r1, r2) := by rw [if_neg (show ¬ (false = true) by decide)] at H; exact H
            clear H
            have H := H1
            clear H1
            have H' := Aside0.mk H
            clear H
            go_wp2
            go_meet
            case rel => exact ⟨_, (false), (by first | rfl | (simp; done) | (simp only [i64_w, i32_w]; first | done | rfl | (simp; done)) | (simp [*]; done)), H', ⟨by have := HK1.out; first | omega | exact Nat.le_refl _⟩, ⟨rm HO_4.out⟩, ⟨bl HB.out⟩⟩
         ·rw [if_neg c22] at H
          have c22b0 : decide (15 ≤ x10_1) = false := decide_eq_false c22
          clear c22
          by_cases c26 : t692 = true
          ·subst c26
           have H1 : (if x10_1 ≥ 20 then (quoinref04_Fixed.j1 k1 t686 true true true x9_1 x10_1 (decide (x10_1 ≤ 24))) else (quoinref04_Fixed.j1 k1 t686 true true true x9_1 x10_1 false)) = some (r1, r2) := by rw [if_pos rfl] at H; exact H
           clear H
           have H := H1
           clear H1
           by_cases c27 : x10_1 ≥ 20
           ·rw [if_pos c27] at H
            have c27b0 : decide (20 ≤ x10_1) = true := decide_eq_true c27
            clear c27
            have H' := Aside0.mk H
            clear H
            go_wp2
            go_meet
            case rel => exact ⟨_, (decide (x10_1 ≤ 24)), (by first | rfl | (simp; done) | (simp only [i64_w, i32_w]; first | done | rfl | (simp; done)) | (simp [*]; done)), H', ⟨by have := HK1.out; first | omega | exact Nat.le_refl _⟩, ⟨rm HO_4.out⟩, ⟨bl HB.out⟩⟩
           ·rw [if_neg c27] at H
            have c27b0 : decide (20 ≤ x10_1) = false := decide_eq_false c27
            clear c27
            have H' := Aside0.mk H
            clear H
            go_wp2
            go_meet
            case rel => exact ⟨_, (false), (by first | rfl | (simp; done) | (simp only [i64_w, i32_w]; first | done | rfl | (simp; done)) | (simp [*]; done)), H', ⟨by have := HK1.out; first | omega | exact Nat.le_refl _⟩, ⟨rm HO_4.out⟩, ⟨bl HB.out⟩⟩
          ·replace c26 := Bool.eq_false_iff.mpr c26
           subst c26
           have H1 : (quoinref04_Fixed.j1 k1 t686 true true false x9_1 x10_1 false) = some (r1, r2) := by rw [if_neg (show ¬ (false = true) by decide)] at H; exact H
           clear H
           have H := H1
           clear H1
           have H' := Aside0.mk H
           clear H
           go_wp2
           go_meet
           case rel => exact ⟨_, (false), (by first | rfl | (simp; done) | (simp only [i64_w, i32_w]; first | done | rfl | (simp; done)) | (simp [*]; done)), H', ⟨by have := HK1.out; first | omega | exact Nat.le_refl _⟩, ⟨rm HO_4.out⟩, ⟨bl HB.out⟩⟩
        ·replace c21 := Bool.eq_false_iff.mpr c21
         subst c21
         have H1 : (if t692 = true then (if x10_1 ≥ 20 then (quoinref04_Fixed.j1 k1 t686 true false t692 x9_1 x10_1 (decide (x10_1 ≤ 24))) else (quoinref04_Fixed.j1 k1 t686 true false t692 x9_1 x10_1 false)) else (quoinref04_Fixed.j1 k1 t686 true false t692 x9_1 x10_1 false)) = some (r1, r2) := by rw [if_neg (show ¬ (false = true) by decide)] at H; exact H
         clear H
         have H := H1
         clear H1
         by_cases c28 : t692 = true
         ·subst c28
          have H1 : (if x10_1 ≥ 20 then (quoinref04_Fixed.j1 k1 t686 true false true x9_1 x10_1 (decide (x10_1 ≤ 24))) else (quoinref04_Fixed.j1 k1 t686 true false true x9_1 x10_1 false)) = some (r1, r2) := by rw [if_pos rfl] at H; exact H
          clear H
          have H := H1
          clear H1
          by_cases c29 : x10_1 ≥ 20
          ·rw [if_pos c29] at H
           have c29b0 : decide (20 ≤ x10_1) = true := decide_eq_true c29
           clear c29
           have H' := Aside0.mk H
           clear H
           go_wp2
           go_meet
           case rel => exact ⟨_, (decide (x10_1 ≤ 24)), (by first | rfl | (simp; done) | (simp only [i64_w, i32_w]; first | done | rfl | (simp; done)) | (simp [*]; done)), H', ⟨by have := HK1.out; first | omega | exact Nat.le_refl _⟩, ⟨rm HO_4.out⟩, ⟨bl HB.out⟩⟩
          ·rw [if_neg c29] at H
           have c29b0 : decide (20 ≤ x10_1) = false := decide_eq_false c29
           clear c29
           have H' := Aside0.mk H
           clear H
           go_wp2
           go_meet
           case rel => exact ⟨_, (false), (by first | rfl | (simp; done) | (simp only [i64_w, i32_w]; first | done | rfl | (simp; done)) | (simp [*]; done)), H', ⟨by have := HK1.out; first | omega | exact Nat.le_refl _⟩, ⟨rm HO_4.out⟩, ⟨bl HB.out⟩⟩
         ·replace c28 := Bool.eq_false_iff.mpr c28
          subst c28
          have H1 : (quoinref04_Fixed.j1 k1 t686 true false false x9_1 x10_1 false) = some (r1, r2) := by rw [if_neg (show ¬ (false = true) by decide)] at H; exact H
          clear H
          have H := H1
          clear H1
          have H' := Aside0.mk H
          clear H
          go_wp2
          go_meet
          case rel => exact ⟨_, (false), (by first | rfl | (simp; done) | (simp only [i64_w, i32_w]; first | done | rfl | (simp; done)) | (simp [*]; done)), H', ⟨by have := HK1.out; first | omega | exact Nat.le_refl _⟩, ⟨rm HO_4.out⟩, ⟨bl HB.out⟩⟩
      ·replace c9 := Bool.eq_false_iff.mpr c9
       subst c9
       have H1 : (if t691 = true then (if x10_1 ≥ 15 then (if x10_1 ≤ 19 then (quoinref04_Fixed.j1 k1 t686 false t691 t692 x9_1 x10_1 true) else (if t692 = true then (if x10_1 ≥ 20 then (quoinref04_Fixed.j1 k1 t686 false t691 t692 x9_1 x10_1 (decide (x10_1 ≤ 24))) else (quoinref04_Fixed.j1 k1 t686 false t691 t692 x9_1 x10_1 false)) else (quoinref04_Fixed.j1 k1 t686 false t691 t692 x9_1 x10_1 false))) else (if t692 = true then (if x10_1 ≥ 20 then (quoinref04_Fixed.j1 k1 t686 false t691 t692 x9_1 x10_1 (decide (x10_1 ≤ 24))) else (quoinref04_Fixed.j1 k1 t686 false t691 t692 x9_1 x10_1 false)) else (quoinref04_Fixed.j1 k1 t686 false t691 t692 x9_1 x10_1 false))) else (if t692 = true then (if x10_1 ≥ 20 then (quoinref04_Fixed.j1 k1 t686 false t691 t692 x9_1 x10_1 (decide (x10_1 ≤ 24))) else (quoinref04_Fixed.j1 k1 t686 false t691 t692 x9_1 x10_1 false)) else (quoinref04_Fixed.j1 k1 t686 false t691 t692 x9_1 x10_1 false))) = some (r1, r2) := by rw [if_neg (show ¬ (false = true) by decide)] at H; exact H
       clear H
       have H := H1
       clear H1
       by_cases c30 : t691 = true
       ·subst c30
        have H1 : (if x10_1 ≥ 15 then (if x10_1 ≤ 19 then (quoinref04_Fixed.j1 k1 t686 false true t692 x9_1 x10_1 true) else (if t692 = true then (if x10_1 ≥ 20 then (quoinref04_Fixed.j1 k1 t686 false true t692 x9_1 x10_1 (decide (x10_1 ≤ 24))) else (quoinref04_Fixed.j1 k1 t686 false true t692 x9_1 x10_1 false)) else (quoinref04_Fixed.j1 k1 t686 false true t692 x9_1 x10_1 false))) else (if t692 = true then (if x10_1 ≥ 20 then (quoinref04_Fixed.j1 k1 t686 false true t692 x9_1 x10_1 (decide (x10_1 ≤ 24))) else (quoinref04_Fixed.j1 k1 t686 false true t692 x9_1 x10_1 false)) else (quoinref04_Fixed.j1 k1 t686 false true t692 x9_1 x10_1 false))) = some (r1, r2) := by rw [if_pos rfl] at H; exact H
        clear H
        have H := H1
        clear H1
        by_cases c31 : x10_1 ≥ 15
        ·rw [if_pos c31] at H
         have c31b0 : decide (15 ≤ x10_1) = true := decide_eq_true c31
         clear c31
         by_cases c32 : x10_1 ≤ 19
         ·rw [if_pos c32] at H
          have c32b0 : decide (x10_1 ≤ 19) = true := decide_eq_true c32
          clear c32
          have H' := Aside0.mk H
          clear H
          go_wp2
          go_meet
          case rel => exact ⟨_, (true), (by first | rfl | (simp; done) | (simp only [i64_w, i32_w]; first | done | rfl | (simp; done)) | (simp [*]; done)), H', ⟨by have := HK1.out; first | omega | exact Nat.le_refl _⟩, ⟨rm HO_4.out⟩, ⟨bl HB.out⟩⟩
         ·rw [if_neg c32] at H
          have c32b0 : decide (x10_1 ≤ 19) = false := decide_eq_false c32
          clear c32
          by_cases c33 : t692 = true
          ·subst c33
           have H1 : (if x10_1 ≥ 20 then (quoinref04_Fixed.j1 k1 t686 false true true x9_1 x10_1 (decide (x10_1 ≤ 24))) else (quoinref04_Fixed.j1 k1 t686 false true true x9_1 x10_1 false)) = some (r1, r2) := by rw [if_pos rfl] at H; exact H
           clear H
           have H := H1
           clear H1
           by_cases c34 : x10_1 ≥ 20
           ·rw [if_pos c34] at H
            have c34b0 : decide (20 ≤ x10_1) = true := decide_eq_true c34
            clear c34
            have H' := Aside0.mk H
            clear H
            go_wp2
            go_meet
            case rel => exact ⟨_, (decide (x10_1 ≤ 24)), (by first | rfl | (simp; done) | (simp only [i64_w, i32_w]; first | done | rfl | (simp; done)) | (simp [*]; done)), H', ⟨by have := HK1.out; first | omega | exact Nat.le_refl _⟩, ⟨rm HO_4.out⟩, ⟨bl HB.out⟩⟩
           ·rw [if_neg c34] at H
            have c34b0 : decide (20 ≤ x10_1) = false := decide_eq_false c34
            clear c34
            have H' := Aside0.mk H
            clear H
            go_wp2
            go_meet
            case rel => exact ⟨_, (false), (by first | rfl | (simp; done) | (simp only [i64_w, i32_w]; first | done | rfl | (simp; done)) | (simp [*]; done)), H', ⟨by have := HK1.out; first | omega | exact Nat.le_refl _⟩, ⟨rm HO_4.out⟩, ⟨bl HB.out⟩⟩
          ·replace c33 := Bool.eq_false_iff.mpr c33
           subst c33
           have H1 : (quoinref04_Fixed.j1 k1 t686 false true false x9_1 x10_1 false) = some (r1, r2) := by rw [if_neg (show ¬ (false = true) by decide)] at H; exact H
           clear H
           have H := H1
           clear H1
           have H' := Aside0.mk H
           clear H
           go_wp2
           go_meet
           case rel => exact ⟨_, (false), (by first | rfl | (simp; done) | (simp only [i64_w, i32_w]; first | done | rfl | (simp; done)) | (simp [*]; done)), H', ⟨by have := HK1.out; first | omega | exact Nat.le_refl _⟩, ⟨rm HO_4.out⟩, ⟨bl HB.out⟩⟩
        ·rw [if_neg c31] at H
         have c31b0 : decide (15 ≤ x10_1) = false := decide_eq_false c31
         clear c31
         by_cases c35 : t692 = true
         ·subst c35
          have H1 : (if x10_1 ≥ 20 then (quoinref04_Fixed.j1 k1 t686 false true true x9_1 x10_1 (decide (x10_1 ≤ 24))) else (quoinref04_Fixed.j1 k1 t686 false true true x9_1 x10_1 false)) = some (r1, r2) := by rw [if_pos rfl] at H; exact H
          clear H
          have H := H1
          clear H1
          by_cases c36 : x10_1 ≥ 20
          ·rw [if_pos c36] at H
           have c36b0 : decide (20 ≤ x10_1) = true := decide_eq_true c36
           clear c36
           have H' := Aside0.mk H
           clear H
           go_wp2
           go_meet
           case rel => exact ⟨_, (decide (x10_1 ≤ 24)), (by first | rfl | (simp; done) | (simp only [i64_w, i32_w]; first | done | rfl | (simp; done)) | (simp [*]; done)), H', ⟨by have := HK1.out; first | omega | exact Nat.le_refl _⟩, ⟨rm HO_4.out⟩, ⟨bl HB.out⟩⟩
          ·rw [if_neg c36] at H
           have c36b0 : decide (20 ≤ x10_1) = false := decide_eq_false c36
           clear c36
           have H' := Aside0.mk H
           clear H
           go_wp2
           go_meet
           case rel => exact ⟨_, (false), (by first | rfl | (simp; done) | (simp only [i64_w, i32_w]; first | done | rfl | (simp; done)) | (simp [*]; done)), H', ⟨by have := HK1.out; first | omega | exact Nat.le_refl _⟩, ⟨rm HO_4.out⟩, ⟨bl HB.out⟩⟩
         ·replace c35 := Bool.eq_false_iff.mpr c35
          subst c35
          have H1 : (quoinref04_Fixed.j1 k1 t686 false true false x9_1 x10_1 false) = some (r1, r2) := by rw [if_neg (show ¬ (false = true) by decide)] at H; exact H
          clear H
          have H := H1
          clear H1
          have H' := Aside0.mk H
          clear H
          go_wp2
          go_meet
          case rel => exact ⟨_, (false), (by first | rfl | (simp; done) | (simp only [i64_w, i32_w]; first | done | rfl | (simp; done)) | (simp [*]; done)), H', ⟨by have := HK1.out; first | omega | exact Nat.le_refl _⟩, ⟨rm HO_4.out⟩, ⟨bl HB.out⟩⟩
       ·replace c30 := Bool.eq_false_iff.mpr c30
        subst c30
        have H1 : (if t692 = true then (if x10_1 ≥ 20 then (quoinref04_Fixed.j1 k1 t686 false false t692 x9_1 x10_1 (decide (x10_1 ≤ 24))) else (quoinref04_Fixed.j1 k1 t686 false false t692 x9_1 x10_1 false)) else (quoinref04_Fixed.j1 k1 t686 false false t692 x9_1 x10_1 false)) = some (r1, r2) := by rw [if_neg (show ¬ (false = true) by decide)] at H; exact H
        clear H
        have H := H1
        clear H1
        by_cases c37 : t692 = true
        ·subst c37
         have H1 : (if x10_1 ≥ 20 then (quoinref04_Fixed.j1 k1 t686 false false true x9_1 x10_1 (decide (x10_1 ≤ 24))) else (quoinref04_Fixed.j1 k1 t686 false false true x9_1 x10_1 false)) = some (r1, r2) := by rw [if_pos rfl] at H; exact H
         clear H
         have H := H1
         clear H1
         by_cases c38 : x10_1 ≥ 20
         ·rw [if_pos c38] at H
          have c38b0 : decide (20 ≤ x10_1) = true := decide_eq_true c38
          clear c38
          have H' := Aside0.mk H
          clear H
          go_wp2
          go_meet
          case rel => exact ⟨_, (decide (x10_1 ≤ 24)), (by first | rfl | (simp; done) | (simp only [i64_w, i32_w]; first | done | rfl | (simp; done)) | (simp [*]; done)), H', ⟨by have := HK1.out; first | omega | exact Nat.le_refl _⟩, ⟨rm HO_4.out⟩, ⟨bl HB.out⟩⟩
         ·rw [if_neg c38] at H
          have c38b0 : decide (20 ≤ x10_1) = false := decide_eq_false c38
          clear c38
          have H' := Aside0.mk H
          clear H
          go_wp2
          go_meet
          case rel => exact ⟨_, (false), (by first | rfl | (simp; done) | (simp only [i64_w, i32_w]; first | done | rfl | (simp; done)) | (simp [*]; done)), H', ⟨by have := HK1.out; first | omega | exact Nat.le_refl _⟩, ⟨rm HO_4.out⟩, ⟨bl HB.out⟩⟩
        ·replace c37 := Bool.eq_false_iff.mpr c37
         subst c37
         have H1 : (quoinref04_Fixed.j1 k1 t686 false false false x9_1 x10_1 false) = some (r1, r2) := by rw [if_neg (show ¬ (false = true) by decide)] at H; exact H
         clear H
         have H := H1
         clear H1
         have H' := Aside0.mk H
         clear H
         go_wp2
         go_meet
         case rel => exact ⟨_, (false), (by first | rfl | (simp; done) | (simp only [i64_w, i32_w]; first | done | rfl | (simp; done)) | (simp [*]; done)), H', ⟨by have := HK1.out; first | omega | exact Nat.le_refl _⟩, ⟨rm HO_4.out⟩, ⟨bl HB.out⟩⟩
     case rest =>
      clear HC8
      try clear p2
      try clear c3
      try clear c3b0
      try clear c3b1
      try clear c4
      try clear c5
      try clear c7
      try clear c7b0
      try clear p2
      obtain ⟨kq, x11_7, rfl, HA, HJ7, HO_4, HB⟩ := hcut
      cases kq with
      | zero => exact absurd HA.out (by simp [quoinref04_Fixed.j1])
      | succ kj7 =>
       have H := HA.out
       clear HA
       simp only [quoinref04_Fixed.j1] at H
       have H' := Aside0.mk H
       clear H
       go_wp2
       go_loopg [11, 12] kj7 (fun kq v11 v12 w' => ∃ (x11_3 : Bool) (x12_3 : Int), v11 = .bool x11_3 ∧ v12 = .int .i64 x12_3 ∧ Aside0 (quoinref04_Fixed.l1 kq t686 t690 t691 t692 x9_1 x10_1 x11_3 x12_3 = some (r1, r2)) ∧ Aside0 (kq ≤ kj7) ∧ Aside0 (Kd.R (Kd.int .i64) 3 w' w.heap.size (fun _ => True) v688 t686) ∧ Aside0 (Below w.heap.size w w'))
       case atStart => exact ⟨(x11_7), (0), (by first | rfl | (simp; done) | (simp only [i64_w, i32_w]; first | done | rfl | (simp; done)) | (simp [*]; done)), (by first | rfl | (simp; done) | (simp only [i64_w, i32_w]; first | done | rfl | (simp; done)) | (simp [*]; done)), H', ⟨Nat.le_refl _⟩, ⟨rm HO_4.out⟩, ⟨bl HB.out⟩⟩
       case round =>
        clear H'
        try clear c1
        try clear c2
        try clear p2
        try clear c3
        try clear c3b0
        try clear c3b1
        try clear c4
        try clear c5
        try clear c7
        try clear c7b0
        try clear c9
        try clear c10
        try clear c10b0
        try clear c11
        try clear c11b0
        try clear c12
        try clear c13
        try clear c13b0
        try clear c14
        try clear c14b0
        try clear c15
        try clear c16
        try clear c16b0
        try clear c17
        try clear c18
        try clear c18b0
        try clear c19
        try clear c20
        try clear c20b0
        try clear c21
        try clear c22
        try clear c22b0
        try clear c23
        try clear c23b0
        try clear c24
        try clear c25
        try clear c25b0
        try clear c26
        try clear c27
        try clear c27b0
        try clear c28
        try clear c29
        try clear c29b0
        try clear c30
        try clear c31
        try clear c31b0
        try clear c32
        try clear c32b0
        try clear c33
        try clear c34
        try clear c34b0
        try clear c35
        try clear c36
        try clear c36b0
        try clear c37
        try clear c38
        try clear c38b0
        try clear p2
        obtain ⟨x11_3, x12_3, rfl, rfl, HA, HK3, HO_4, HB⟩ := hrel
        cases gk with
        | zero => exact absurd HA.out (by simp [quoinref04_Fixed.l1])
        | succ k3 =>
         have H := HA.out
         clear HA
         simp only [quoinref04_Fixed.l1] at H
         by_cases c39 : x12_3 < (t686.length : Int)
         ·rw [if_pos c39] at H
          have c39b0 : decide (x12_3 < (t686.length : Int)) = true := decide_eq_true c39
          clear c39
          by_cases c40 : 0 ≤ x12_3
          ·rw [if_pos c40] at H
           have c40b0 : decide (0 ≤ x12_3) = true := decide_eq_true c40
           clear c40
           by_cases c41 : (rd t686 x12_3) = x10_1
           ·rw [if_pos c41] at H
            have c41b0 := beq_iff_eq.mpr c41
            have c41b1 := bne_eq_false_iff_eq.mpr c41
            clear c41
            have H' := Aside0.mk H
            clear H
            obtain ⟨Ao42, co42, eo42⟩ := Kd.R_slice HO_4.out
            subst eo42
            have p693 : 0 ≤ (x12_3 : Int) := of_decide_eq_true (by first | (with_reducible assumption) | assumption)
            have q693 : x12_3 < (t686.length : Int) := of_decide_eq_true (by first | (with_reducible assumption) | assumption)
            obtain ⟨ad693, e693, hx693_0⟩ := Kd.at_int (Kd.R_reads' HO_4.out).2.2 x12_3 p693 q693
            cases e693
            replace p693 := eq_true p693
            replace q693 := eq_true q693
            go_wp2
            go_roundg k3
            case measure => have := HK1.out; have := HJ7.out; have := HK3.out; omega
            case rel => exact ⟨(true), (wrap64 (x12_3 + 1)), (by first | rfl | (simp; done) | (simp only [i64_w, i32_w]; first | done | rfl | (simp; done)) | (simp [*]; done)), (by first | rfl | (simp; done) | (simp only [i64_w, i32_w]; first | done | rfl | (simp; done)) | (simp [*]; done)), H', ⟨by have := HK1.out; have := HJ7.out; have := HK3.out; omega⟩, ⟨rm HO_4.out⟩, ⟨bl HB.out⟩⟩
           ·rw [if_neg c41] at H
            have c41b0 := beq_eq_false_iff_ne.mpr c41
            have c41b1 := bne_iff_ne.mpr c41
            have H' := Aside0.mk H
            clear H
            obtain ⟨Ao43, co43, eo43⟩ := Kd.R_slice HO_4.out
            subst eo43
            have p693 : 0 ≤ (x12_3 : Int) := of_decide_eq_true (by first | (with_reducible assumption) | assumption)
            have q693 : x12_3 < (t686.length : Int) := of_decide_eq_true (by first | (with_reducible assumption) | assumption)
            obtain ⟨ad693, e693, hx693_0⟩ := Kd.at_int (Kd.R_reads' HO_4.out).2.2 x12_3 p693 q693
            cases e693
            replace p693 := eq_true p693
            replace q693 := eq_true q693
            go_wp2
            go_roundg k3
            case measure => have := HK1.out; have := HJ7.out; have := HK3.out; omega
            case rel => exact ⟨(x11_3), (wrap64 (x12_3 + 1)), (by first | rfl | (simp; done) | (simp only [i64_w, i32_w]; first | done | rfl | (simp; done)) | (simp [*]; done)), (by first | rfl | (simp; done) | (simp only [i64_w, i32_w]; first | done | rfl | (simp; done)) | (simp [*]; done)), H', ⟨by have := HK1.out; have := HJ7.out; have := HK3.out; omega⟩, ⟨rm HO_4.out⟩, ⟨bl HB.out⟩⟩
          ·rw [if_neg c40] at H
           exact absurd H (by simp)
         ·rw [if_neg c39] at H
          have c39b0 : decide (x12_3 < (t686.length : Int)) = false := decide_eq_false c39
          clear c39
          by_cases c44 : x11_3 = true
          ·subst c44
           have H1 : (quoinref04_Fixed.l0 k3 t686 t690 t691 t692 x9_1 (wrap64 (x10_1 + 1))) = some (r1, r2) := by rw [if_pos rfl] at H; exact H
           clear H
           have H := H1
           clear H1
           have H' := Aside0.mk H
           clear H
           obtain ⟨Ao45, co45, eo45⟩ := Kd.R_slice HO_4.out
           subst eo45
           go_wp2
           go_roundg k3
           case measure => have := HK1.out; have := HJ7.out; have := HK3.out; omega
           case rel => exact ⟨(x9_1), (wrap64 (x10_1 + 1)), (by first | rfl | (simp; done) | (simp only [i64_w, i32_w]; first | done | rfl | (simp; done)) | (simp [*]; done)), (by first | rfl | (simp; done) | (simp only [i64_w, i32_w]; first | done | rfl | (simp; done)) | (simp [*]; done)), H', ⟨by have := HK1.out; have := HJ7.out; have := HK3.out; omega⟩, ⟨rm HO_4.out⟩, ⟨bl HB.out⟩⟩
          ·replace c44 := Bool.eq_false_iff.mpr c44
           subst c44
           have H1 : ((quoinref01_Two.f k3 x10_1).bind fun t694 => (quoinref04_Fixed.l0 k3 t686 t690 t691 t692 ((x9_1 + ((t694) % 4294967296)) % 4294967296) (wrap64 (x10_1 + 1)))) = some (r1, r2) := by rw [if_neg (show ¬ (false = true) by decide)] at H; exact H
           clear H
           have H := H1
           clear H1
           replace H := Option.bind_eq_some_iff.mp H
           obtain ⟨t694, A460, H⟩ := H
           have A46 := Aside0.mk A460
           clear A460
           have H' := Aside0.mk H
           clear H
           obtain ⟨Ao47, co47, eo47⟩ := Kd.R_slice HO_4.out
           subst eo47
           go_wp2_with (first | ((with_reducible refine gate_callee (f := 72) rfl ?_); refine goesL_ (some 77) rfl rfl Tryd.func72 (by kernel_rfl) rfl #[.int .i64 x10_1] rfl (by (try simp only [List.map_toArray, List.map_cons, List.map_nil]); first | done | rfl) ?_; (with_reducible refine (quoinref01_Two.calls k3 x10_1 t694 _ A46.out).mono ?_); rintro e w' ⟨rfl, ⟨nd, rfl⟩⟩; refine ⟨_, rfl, ?_⟩))
           go_roundg k3
           case measure => have := HK1.out; have := HJ7.out; have := HK3.out; omega
           case rel => exact ⟨((x9_1 + ((t694) % 4294967296)) % 4294967296), (wrap64 (x10_1 + 1)), (by first | rfl | (simp; done) | (simp only [i64_w, i32_w]; first | done | rfl | (simp; done)) | (simp [*]; done)), (by first | rfl | (simp; done) | (simp only [i64_w, i32_w]; first | done | rfl | (simp; done)) | (simp [*]; done)), H', ⟨by have := HK1.out; have := HJ7.out; have := HK3.out; omega⟩, ⟨rm HO_4.out⟩, ⟨bl HB.out⟩⟩
    ·rw [if_neg c7] at H
     have c7b0 : decide (x10_1 < 32) = false := decide_eq_false c7
     clear c7
     simp only [Option.some.injEq, Prod.mk.injEq] at H
     obtain ⟨rfl, rfl⟩ := H
     go_wp2
     go_ret2
     exact ⟨by first | rfl | (simp <;> rfl) | (simp [*] <;> rfl), bl HB.out⟩
 ·rw [if_neg c3] at H
  have c3b0 := beq_eq_false_iff_ne.mpr c3
  have c3b1 := bne_iff_ne.mpr c3
  simp only [Option.some.injEq, Prod.mk.injEq] at H
  obtain ⟨rfl, rfl⟩ := H
  go_enter Tryd.func51, Tryd.ntmps51
  go_wp2_with (first | ((with_reducible refine gate_callee (f := 48) rfl ?_); refine goesL_ (some 15) rfl rfl Tryd.func48 (by kernel_rfl) rfl #[.int .u8 a0] rfl (by (try simp only [List.map_toArray, List.map_cons, List.map_nil]); first | done | rfl) ?_; (with_reducible refine (quoinref03_Places.calls k a0 t686 t687 _ A2.out).mono ?_); rintro e w48 ⟨v688, rfl, ho0, hb⟩; refine ⟨_, rfl, ?_⟩; have n0_ := Aside0.mk (Kd.R_lower ho0 (below_size (bl HB.out))); have n1_ := Aside0.mk (below_step (bl HB.out) hb); clear HB; have HO689 := n0_; have HB := n1_; clear n0_ n1_; (try clear hb); (try clear hb2); (try clear hk); (try clear hi); (try clear ho0)))
  go_ret2
  exact ⟨by first | rfl | (simp <;> rfl) | (simp [*] <;> rfl), bl HB.out⟩

end Go.Proofs.YtpijiohiohiilaaDoor.D
