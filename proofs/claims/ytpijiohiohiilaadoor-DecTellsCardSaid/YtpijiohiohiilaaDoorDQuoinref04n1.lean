/- Walks and rows of the laws of quoin: each Lean function here tells just what the Go function of its name answers. Conditions: none but those that a row itself names. Written by a program of this session (wip/reprint.py) over the kit print, and turned by it. -/
import Derived.Test.YtpijiohiohiilaaDoorD0
import Derived.Test.YtpijiohiohiilaaDoorDQuoinref01
import Derived.Test.YtpijiohiohiilaaDoorDQuoinref02
import Derived.Test.YtpijiohiohiilaaDoorDQuoinref03
import Derived.Test.YtpijiohiohiilaaDoorDQuoinref04
import Derived.Test.YtpijiohiohiilaaDoorWTab
namespace Go.Proofs.YtpijiohiohiilaaDoor.D
open Go.RowKit Go.Proofs.YtpijiohiohiilaaDoorW.PrintWords Go.Proofs.YtpijiohiohiilaaDoorW.PrintLast Go.Proofs.YtpijiohiohiilaaDoorW.PrintMore
attribute [local go_sem] max2_int min2_int max_two min_two max_three min_three max_four min_four   -- for this text's walks alone
set_option linter.unusedVariables false
set_option linter.unusedSimpArgs false

/-! ### quoinref04_Read: function 70 -/
mutual
def quoinref04_Read.j0 : Nat → Int → Int → Int → Int → Int → Int → Int → Option (Int × Int × Int × Int × Int × Bool)
 | 0, _, _, _, _, _, _, _ => none
 | k + 1, x1, x6, x662000, x662001, x662002, x662003, x662004 => if x6 = 74 then (quoinref04_Read.j1 k x1 x6 true x662000 x662001 x662002 x662003 x662004) else (quoinref04_Read.j1 k x1 x6 (x6 == 66) x662000 x662001 x662002 x662003 x662004)
def quoinref04_Read.j1 : Nat → Int → Int → Bool → Int → Int → Int → Int → Int → Option (Int × Int × Int × Int × Int × Bool)
 | 0, _, _, _, _, _, _, _, _ => none
 | k + 1, x1, x6, x53, x662000, x662001, x662002, x662003, x662004 => if x53 = true then (quoinref04_Read.j2 k x1 x6 x662000 x662001 x662002 x662003 (wrap64 (2 * x662004))) else (quoinref04_Read.j2 k x1 x6 x662000 x662001 x662002 x662003 x662004)
def quoinref04_Read.j2 : Nat → Int → Int → Int → Int → Int → Int → Int → Option (Int × Int × Int × Int × Int × Bool)
 | 0, _, _, _, _, _, _, _ => none
 | k + 1, x1, x6, x662000, x662001, x662002, x662003, x662004 => (quoinref04_has.f k x6).bind fun bt667 => (if bt667.1 = true then ((quoinref01_Bits.f k x1 7 5).bind fun t670 => (quoinref04_Read.j3 k x1 bt667.2.1 bt667.2.2 x662000 (wrap64 (t670)) x662002 x662003 x662004)) else (quoinref04_Read.j3 k x1 bt667.2.1 bt667.2.2 x662000 x662001 x662002 x662003 x662004))
def quoinref04_Read.j3 : Nat → Int → Bool → Bool → Int → Int → Int → Int → Int → Option (Int × Int × Int × Int × Int × Bool)
 | 0, _, _, _, _, _, _, _, _ => none
 | k + 1, x1, x14, x15, x662000, x662001, x662002, x662003, x662004 => if x14 = true then ((quoinref01_Bits.f k x1 15 5).bind fun t671 => (quoinref04_Read.j4 k x1 x15 x662000 x662001 (wrap64 (t671)) x662003 x662004)) else (quoinref04_Read.j4 k x1 x15 x662000 x662001 x662002 x662003 x662004)
def quoinref04_Read.j4 : Nat → Int → Bool → Int → Int → Int → Int → Int → Option (Int × Int × Int × Int × Int × Bool)
 | 0, _, _, _, _, _, _, _ => none
 | k + 1, x1, x15, x662000, x662001, x662002, x662003, x662004 => if x15 = true then ((quoinref01_Bits.f k x1 20 5).bind fun t672 => ((quoinref02_May.f k x662000 x662001 x662002 (wrap64 (t672)) x662004).bind fun t673 => (if t673 = true then ((quoinref03_Coded.f k x662000 x662001 x662002 (wrap64 (t672)) x662004).bind fun t674 => (some (x662000, x662001, x662002, wrap64 (t672), x662004, (t674 == x1)))) else (some (x662000, x662001, x662002, wrap64 (t672), x662004, false))))) else ((quoinref02_May.f k x662000 x662001 x662002 x662003 x662004).bind fun t675 => (if t675 = true then ((quoinref03_Coded.f k x662000 x662001 x662002 x662003 x662004).bind fun t676 => (some (x662000, x662001, x662002, x662003, x662004, (t676 == x1)))) else (some (x662000, x662001, x662002, x662003, x662004, false))))
end
def quoinref04_Read.f (k : Nat) (a0 : Int) (a1 : Int) : Option (Int × Int × Int × Int × Int × Bool) := (quoinref02_Form.f k a0).bind fun bt653 => ((quoinref03_Places.f k bt653.1).bind fun bt655 => ((quoinref01_Gather.f k a1 bt655.1).bind fun bt659 => (if bt653.1 = 73 then ((quoinref01_Signed.f k bt659.1 (bt655.1.length : Int)).bind fun t662 => (quoinref04_Read.j0 k a1 bt653.1 a0 0 0 0 t662)) else (if bt653.1 = 76 then ((quoinref01_Signed.f k bt659.1 (bt655.1.length : Int)).bind fun t663 => (quoinref04_Read.j0 k a1 bt653.1 a0 0 0 0 t663)) else (if bt653.1 = 83 then ((quoinref01_Signed.f k bt659.1 (bt655.1.length : Int)).bind fun t664 => (quoinref04_Read.j0 k a1 bt653.1 a0 0 0 0 t664)) else (if bt653.1 = 74 then ((quoinref01_Signed.f k bt659.1 (bt655.1.length : Int)).bind fun t665 => (quoinref04_Read.j0 k a1 bt653.1 a0 0 0 0 t665)) else (if bt653.1 = 66 then ((quoinref01_Signed.f k bt659.1 (bt655.1.length : Int)).bind fun t666 => (quoinref04_Read.j0 k a1 bt653.1 a0 0 0 0 t666)) else (quoinref04_Read.j0 k a1 bt653.1 a0 0 0 0 (wrap64 (bt659.1))))))))))
theorem quoinref04_Read.mono_l : ∀ k, (∀ y0 y1 y2 y3 y4 y5 y6, LeO (quoinref04_Read.j0 k y0 y1 y2 y3 y4 y5 y6) (quoinref04_Read.j0 (k + 1) y0 y1 y2 y3 y4 y5 y6)) ∧ (∀ y0 y1 y2 y3 y4 y5 y6 y7, LeO (quoinref04_Read.j1 k y0 y1 y2 y3 y4 y5 y6 y7) (quoinref04_Read.j1 (k + 1) y0 y1 y2 y3 y4 y5 y6 y7)) ∧ (∀ y0 y1 y2 y3 y4 y5 y6, LeO (quoinref04_Read.j2 k y0 y1 y2 y3 y4 y5 y6) (quoinref04_Read.j2 (k + 1) y0 y1 y2 y3 y4 y5 y6)) ∧ (∀ y0 y1 y2 y3 y4 y5 y6 y7, LeO (quoinref04_Read.j3 k y0 y1 y2 y3 y4 y5 y6 y7) (quoinref04_Read.j3 (k + 1) y0 y1 y2 y3 y4 y5 y6 y7)) ∧ (∀ y0 y1 y2 y3 y4 y5 y6, LeO (quoinref04_Read.j4 k y0 y1 y2 y3 y4 y5 y6) (quoinref04_Read.j4 (k + 1) y0 y1 y2 y3 y4 y5 y6))
 | 0 => ⟨fun _ _ _ _ _ _ _ r h => by simp [quoinref04_Read.j0] at h, fun _ _ _ _ _ _ _ _ r h => by simp [quoinref04_Read.j1] at h, fun _ _ _ _ _ _ _ r h => by simp [quoinref04_Read.j2] at h, fun _ _ _ _ _ _ _ _ r h => by simp [quoinref04_Read.j3] at h, fun _ _ _ _ _ _ _ r h => by simp [quoinref04_Read.j4] at h⟩
 | k + 1 => by
  obtain ⟨ih0, ih1, ih2, ih3, ih4⟩ := quoinref04_Read.mono_l k
  refine ⟨?_, ?_, ?_, ?_, ?_⟩
  ·intro y0 y1 y2 y3 y4 y5 y6
   unfold quoinref04_Read.j0
   repeat' first
   | (with_reducible exact ih0 _ _ _ _ _ _ _)
   | (with_reducible exact ih1 _ _ _ _ _ _ _ _)
   | (with_reducible exact ih2 _ _ _ _ _ _ _)
   | (with_reducible exact ih3 _ _ _ _ _ _ _ _)
   | (with_reducible exact ih4 _ _ _ _ _ _ _)
   | (with_reducible exact quoinref01_Bits.mono _ _ _ _)
   | (with_reducible exact quoinref01_Gather.mono _ _ _)
   | (with_reducible exact quoinref01_Signed.mono _ _ _)
   | (with_reducible exact quoinref02_Form.mono _ _)
   | (with_reducible exact quoinref02_May.mono _ _ _ _ _ _)
   | (with_reducible exact quoinref03_Coded.mono _ _ _ _ _ _)
   | (with_reducible exact quoinref03_Places.mono _ _)
   | (with_reducible exact quoinref04_has.mono _ _)
   | (with_reducible exact LeO.refl _)
   | (with_reducible exact LeO.none _)
   | (with_reducible refine LeO.ite ?_ ?_)
   | (with_reducible refine LeO.bind ?_ (fun _ => ?_))
   | exact LeO.none _
   | refine LeO.ite ?_ ?_
   | refine LeO.bind ?_ (fun _ => ?_)
  ·intro y0 y1 y2 y3 y4 y5 y6 y7
   unfold quoinref04_Read.j1
   repeat' first
   | (with_reducible exact ih0 _ _ _ _ _ _ _)
   | (with_reducible exact ih1 _ _ _ _ _ _ _ _)
   | (with_reducible exact ih2 _ _ _ _ _ _ _)
   | (with_reducible exact ih3 _ _ _ _ _ _ _ _)
   | (with_reducible exact ih4 _ _ _ _ _ _ _)
   | (with_reducible exact quoinref01_Bits.mono _ _ _ _)
   | (with_reducible exact quoinref01_Gather.mono _ _ _)
   | (with_reducible exact quoinref01_Signed.mono _ _ _)
   | (with_reducible exact quoinref02_Form.mono _ _)
   | (with_reducible exact quoinref02_May.mono _ _ _ _ _ _)
   | (with_reducible exact quoinref03_Coded.mono _ _ _ _ _ _)
   | (with_reducible exact quoinref03_Places.mono _ _)
   | (with_reducible exact quoinref04_has.mono _ _)
   | (with_reducible exact LeO.refl _)
   | (with_reducible exact LeO.none _)
   | (with_reducible refine LeO.ite ?_ ?_)
   | (with_reducible refine LeO.bind ?_ (fun _ => ?_))
   | exact LeO.none _
   | refine LeO.ite ?_ ?_
   | refine LeO.bind ?_ (fun _ => ?_)
  ·intro y0 y1 y2 y3 y4 y5 y6
   unfold quoinref04_Read.j2
   repeat' first
   | (with_reducible exact ih0 _ _ _ _ _ _ _)
   | (with_reducible exact ih1 _ _ _ _ _ _ _ _)
   | (with_reducible exact ih2 _ _ _ _ _ _ _)
   | (with_reducible exact ih3 _ _ _ _ _ _ _ _)
   | (with_reducible exact ih4 _ _ _ _ _ _ _)
   | (with_reducible exact quoinref01_Bits.mono _ _ _ _)
   | (with_reducible exact quoinref01_Gather.mono _ _ _)
   | (with_reducible exact quoinref01_Signed.mono _ _ _)
   | (with_reducible exact quoinref02_Form.mono _ _)
   | (with_reducible exact quoinref02_May.mono _ _ _ _ _ _)
   | (with_reducible exact quoinref03_Coded.mono _ _ _ _ _ _)
   | (with_reducible exact quoinref03_Places.mono _ _)
   | (with_reducible exact quoinref04_has.mono _ _)
   | (with_reducible exact LeO.refl _)
   | (with_reducible exact LeO.none _)
   | (with_reducible refine LeO.ite ?_ ?_)
   | (with_reducible refine LeO.bind ?_ (fun _ => ?_))
   | exact LeO.none _
   | refine LeO.ite ?_ ?_
   | refine LeO.bind ?_ (fun _ => ?_)
  ·intro y0 y1 y2 y3 y4 y5 y6 y7
   unfold quoinref04_Read.j3
   repeat' first
   | (with_reducible exact ih0 _ _ _ _ _ _ _)
   | (with_reducible exact ih1 _ _ _ _ _ _ _ _)
   | (with_reducible exact ih2 _ _ _ _ _ _ _)
   | (with_reducible exact ih3 _ _ _ _ _ _ _ _)
   | (with_reducible exact ih4 _ _ _ _ _ _ _)
   | (with_reducible exact quoinref01_Bits.mono _ _ _ _)
   | (with_reducible exact quoinref01_Gather.mono _ _ _)
   | (with_reducible exact quoinref01_Signed.mono _ _ _)
   | (with_reducible exact quoinref02_Form.mono _ _)
   | (with_reducible exact quoinref02_May.mono _ _ _ _ _ _)
   | (with_reducible exact quoinref03_Coded.mono _ _ _ _ _ _)
   | (with_reducible exact quoinref03_Places.mono _ _)
   | (with_reducible exact quoinref04_has.mono _ _)
   | (with_reducible exact LeO.refl _)
   | (with_reducible exact LeO.none _)
   | (with_reducible refine LeO.ite ?_ ?_)
   | (with_reducible refine LeO.bind ?_ (fun _ => ?_))
   | exact LeO.none _
   | refine LeO.ite ?_ ?_
   | refine LeO.bind ?_ (fun _ => ?_)
  ·intro y0 y1 y2 y3 y4 y5 y6
   unfold quoinref04_Read.j4
   repeat' first
   | (with_reducible exact ih0 _ _ _ _ _ _ _)
   | (with_reducible exact ih1 _ _ _ _ _ _ _ _)
   | (with_reducible exact ih2 _ _ _ _ _ _ _)
   | (with_reducible exact ih3 _ _ _ _ _ _ _ _)
   | (with_reducible exact ih4 _ _ _ _ _ _ _)
   | (with_reducible exact quoinref01_Bits.mono _ _ _ _)
   | (with_reducible exact quoinref01_Gather.mono _ _ _)
   | (with_reducible exact quoinref01_Signed.mono _ _ _)
   | (with_reducible exact quoinref02_Form.mono _ _)
   | (with_reducible exact quoinref02_May.mono _ _ _ _ _ _)
   | (with_reducible exact quoinref03_Coded.mono _ _ _ _ _ _)
   | (with_reducible exact quoinref03_Places.mono _ _)
   | (with_reducible exact quoinref04_has.mono _ _)
   | (with_reducible exact LeO.refl _)
   | (with_reducible exact LeO.none _)
   | (with_reducible refine LeO.ite ?_ ?_)
   | (with_reducible refine LeO.bind ?_ (fun _ => ?_))
   | exact LeO.none _
   | refine LeO.ite ?_ ?_
   | refine LeO.bind ?_ (fun _ => ?_)
theorem quoinref04_Read.mono : ∀ a0 a1 k, LeO (quoinref04_Read.f k a0 a1) (quoinref04_Read.f (k + 1) a0 a1) := by
 intro a0 a1 k
 obtain ⟨ih0, ih1, ih2, ih3, ih4⟩ := quoinref04_Read.mono_l k
 unfold quoinref04_Read.f
 repeat' first
   | (with_reducible exact ih0 _ _ _ _ _ _ _)
   | (with_reducible exact ih1 _ _ _ _ _ _ _ _)
   | (with_reducible exact ih2 _ _ _ _ _ _ _)
   | (with_reducible exact ih3 _ _ _ _ _ _ _ _)
   | (with_reducible exact ih4 _ _ _ _ _ _ _)
   | (with_reducible exact quoinref01_Bits.mono _ _ _ _)
   | (with_reducible exact quoinref01_Gather.mono _ _ _)
   | (with_reducible exact quoinref01_Signed.mono _ _ _)
   | (with_reducible exact quoinref02_Form.mono _ _)
   | (with_reducible exact quoinref02_May.mono _ _ _ _ _ _)
   | (with_reducible exact quoinref03_Coded.mono _ _ _ _ _ _)
   | (with_reducible exact quoinref03_Places.mono _ _)
   | (with_reducible exact quoinref04_has.mono _ _)
   | (with_reducible exact LeO.refl _)
   | (with_reducible exact LeO.none _)
   | (with_reducible refine LeO.ite ?_ ?_)
   | (with_reducible refine LeO.bind ?_ (fun _ => ?_))
   | exact LeO.none _
   | refine LeO.ite ?_ ?_
   | refine LeO.bind ?_ (fun _ => ?_)
def quoinref04_Read.T21 : Bool × List (List Nat × List Nat) := (true, [([], []), ([], []), ([1], [1]), ([2, 2], [2]), ([3], [3]), ([4, 3, 3], [3, 4]), ([3], [3]), ([5, 6, 3], [3, 5, 6]), ([3, 7], [3, 7]), ([0, 5, 0], [0]), ([8, 9, 0, 1, 2, 3, 4, 5, 6, 7, 8, 9], [8])])
def quoinref04_Read.B21 : List Nat := [0, 0, 2, 6, 14, 30, 14, 126, 254, 63, 1023]
theorem quoinref04_Read.tab21 : rtab .any (opsOf Tryd.f70 21) = quoinref04_Read.T21 := by kernel_rfl
theorem quoinref04_Read.bits21 : waitsOk quoinref04_Read.T21.2 quoinref04_Read.B21 = true := by kernel_rfl
set_option maxHeartbeats 8000000 in
set_option maxRecDepth 100000 in
theorem quoinref04_Read.calls (k : Nat) (a0 : Int) (a1 : Int) (r1 : Int) (r2 : Int) (r3 : Int) (r4 : Int) (r5 : Int) (r6 : Bool) (w : World) (h : quoinref04_Read.f k a0 a1 = some (r1, r2, r3, r4, r5, r6)) :
  Calls Tryd.prog 70 #[.int .u8 a0, .int .u32 a1] w fun e w' => e = .returned (.tuple #[.agg #[.int .u8 r1, .int .i64 r2, .int .i64 r3, .int .i64 r4, .int .i64 r5], .bool r6]) ∧ Below w.heap.size w w' := by
 have hu33 := Tryd.underlying33
 have HB := Aside0.mk (Below.refl w.heap.size w)
 have H : ((quoinref02_Form.f k a0).bind fun bt653 => ((quoinref03_Places.f k bt653.1).bind fun bt655 => ((quoinref01_Gather.f k a1 bt655.1).bind fun bt659 => (if bt653.1 = 73 then ((quoinref01_Signed.f k bt659.1 (bt655.1.length : Int)).bind fun t662 => (quoinref04_Read.j0 k a1 bt653.1 a0 0 0 0 t662)) else (if bt653.1 = 76 then ((quoinref01_Signed.f k bt659.1 (bt655.1.length : Int)).bind fun t663 => (quoinref04_Read.j0 k a1 bt653.1 a0 0 0 0 t663)) else (if bt653.1 = 83 then ((quoinref01_Signed.f k bt659.1 (bt655.1.length : Int)).bind fun t664 => (quoinref04_Read.j0 k a1 bt653.1 a0 0 0 0 t664)) else (if bt653.1 = 74 then ((quoinref01_Signed.f k bt659.1 (bt655.1.length : Int)).bind fun t665 => (quoinref04_Read.j0 k a1 bt653.1 a0 0 0 0 t665)) else (if bt653.1 = 66 then ((quoinref01_Signed.f k bt659.1 (bt655.1.length : Int)).bind fun t666 => (quoinref04_Read.j0 k a1 bt653.1 a0 0 0 0 t666)) else (quoinref04_Read.j0 k a1 bt653.1 a0 0 0 0 (wrap64 (bt659.1))))))))))) = some (r1, r2, r3, r4, r5, r6) := h
 clear h
 replace H := Option.bind_eq_some_iff.mp H
 obtain ⟨⟨t653, t654⟩, A30, H⟩ := H
 have A3 := Aside0.mk A30
 clear A30
 replace H := Option.bind_eq_some_iff.mp H
 obtain ⟨⟨t655, t656⟩, A40, H⟩ := H
 have A4 := Aside0.mk A40
 clear A40
 replace H := Option.bind_eq_some_iff.mp H
 obtain ⟨⟨t659, t660⟩, A50, H⟩ := H
 have A5 := Aside0.mk A50
 clear A50
 have HC6 := Aside0.mk H
 clear H
 go_enter Tryd.func70, Tryd.ntmps70
 go_upto_block 0 with (first | ((with_reducible refine gate_dst (N := 4) rfl ?_); refine box_event ?hg (N := 4) ?hd (cs := #[.int .u8 0, .int .i64 0, .int .i64 0, .int .i64 0, .int .i64 0]) (t := 33) ?hr ?_; (case hd => rfl); (case hg => rfl); (case hr => first | (go_simp; done) | (go_simp; rfl)); intro gb652 hg w7 hbox hb; have n0_ := Aside0.mk (below_step (bl HB.out) hb); have n1_ := Aside0.mk (hbox); have n2_ := Aside0.mk ((by rw [hg]; exact (below_size (bl HB.out)) : w.heap.size ≤ gb652)); have n3_ := Aside0.mk ((by rw [hg]; exact (below_size (bl HB.out)) : w.heap.size ≤ gb652)); clear HB; have HB := n0_; have BK652 := n1_; have GW652 := n2_; have GE652 := n3_; clear n0_ n1_ n2_ n3_; clear hb hbox hg) | ((with_reducible refine gate_callee (f := 39) rfl ?_); refine goesL_ (some 18) rfl rfl Tryd.func39 (by kernel_rfl) rfl #[.int .u8 a0] rfl (by (try simp only [List.map_toArray, List.map_cons, List.map_nil]); first | done | rfl) ?_; (with_reducible refine (quoinref02_Form.calls k a0 t653 t654 _ A3.out).mono ?_); rintro e w8 ⟨rfl, hb⟩; refine ⟨_, rfl, ?_⟩; have n0_ := Aside0.mk (blk_below (g := gb652) (o := .cells #[.int .u8 0, .int .i64 0, .int .i64 0, .int .i64 0, .int .i64 0] 33 (0, 0)) (bk BK652.out) hb); have n1_ := Aside0.mk (below_step (by repeat (first | (with_reducible first | exact HB.out | apply below_alloc | apply pw_below_drewN | apply below_drew1 | refine below_set ?_ GE652.out) | exact HB.out)) hb); clear BK652; clear HB; have BK652 := n0_; have HB := n1_; clear n0_ n1_; (try clear hb); (try clear hb2); (try clear hk); (try clear hi)) | ((with_reducible refine gate_callee (f := 48) rfl ?_); refine goesL_ (some 23) rfl rfl Tryd.func48 (by kernel_rfl) rfl #[.int .u8 t653] rfl (by (try simp only [List.map_toArray, List.map_cons, List.map_nil]); first | done | rfl) ?_; (with_reducible refine (quoinref03_Places.calls k t653 t655 t656 _ A4.out).mono ?_); rintro e w9 ⟨v657, rfl, ho0, hb⟩; refine ⟨_, rfl, ?_⟩; have n0_ := Aside0.mk (Kd.R_lower ho0 (below_size (by repeat (first | (with_reducible first | exact HB.out | apply below_alloc | apply pw_below_drewN | apply below_drew1 | refine below_set ?_ GE652.out) | exact HB.out)))); have n1_ := Aside0.mk (blk_below (g := gb652) (o := .cells #[.int .u8 0, .int .i64 0, .int .i64 0, .int .i64 0, .int .i64 0] 33 (0, 0)) (bk BK652.out) hb); have n2_ := Aside0.mk (below_step (by repeat (first | (with_reducible first | exact HB.out | apply below_alloc | apply pw_below_drewN | apply below_drew1 | refine below_set ?_ GE652.out) | exact HB.out)) hb); clear BK652; clear HB; have HO658 := n0_; have BK652 := n1_; have HB := n2_; clear n0_ n1_ n2_; (try clear hb); (try clear hb2); (try clear hk); (try clear hi); (try clear ho0); obtain ⟨Ao10, co10, eo10⟩ := Kd.R_slice HO658.out; subst eo10) | ((with_reducible refine gate_callee (f := 87) rfl ?_); refine goesL_ (some 29) rfl rfl Tryd.func87 (by kernel_rfl) rfl #[.int .u32 a1, .slice Ao10 t655.length co10] rfl (by (try simp only [List.map_toArray, List.map_cons, List.map_nil]); first | done | rfl) ?_; (with_reducible refine (quoinref01_Gather.calls k a1 _ _ t655 t659 t660 _ ?side1 ?side2 A5.out).mono ?_); (case side1 => repeat (first | exact (Kd.R_reads' HO658.out).2.2 | (with_reducible refine Kd.C_alloc ?_ _) | (with_reducible refine Kd.C_drewN ?_ _) | (with_reducible refine Kd.C_drew ?_))); (case side2 => exact (Kd.R_reads' HO658.out).2.1); rintro e w' ⟨rfl, ⟨nd, rfl⟩⟩; refine ⟨_, rfl, ?_⟩; (try (rw [drewN_self w9]; generalize hq_ : World.drewN w9 _ = w9; have n0_ : Aside0 (Kd.R (Kd.int .i64) 3 w9 w.heap.size (fun _ => True) (.slice Ao10 t655.length co10) t655) := ⟨by rw [← hq_]; exact (rm HO658.out)⟩; have n1_ : Aside0 (w9.heap[gb652]? = some (.cells #[.int .u8 0, .int .i64 0, .int .i64 0, .int .i64 0, .int .i64 0] 33 (0, 0))) := ⟨by rw [← hq_]; exact (bk BK652.out)⟩; have n2_ : Aside0 (Below w.heap.size w w9) := ⟨by rw [← hq_]; exact (by repeat (first | (with_reducible first | exact HB.out | apply below_alloc | apply pw_below_drewN | apply below_drew1 | refine below_set ?_ GE652.out) | exact HB.out))⟩; clear HO658 BK652 HB hq_; have HO658 := n0_; have BK652 := n1_; have HB := n2_; clear n0_ n1_ n2_))) | ((with_reducible refine gate_dst (N := 12) rfl ?_); refine box_event ?hg (N := 12) ?hd (cs := #[.int .u8 0, .int .i64 0, .int .i64 0, .int .i64 0, .int .i64 0]) (t := 33) ?hr ?_; (case hd => rfl); (case hg => rfl); (case hr => first | (go_simp; done) | (go_simp; rfl)); intro gb661 hg w11 hbox hb; have n0_ := Aside0.mk (Kd.R_below (rm HO658.out) hb); have n1_ := Aside0.mk (blk_below (g := gb652) (o := .cells #[.int .u8 0, .int .i64 0, .int .i64 0, .int .i64 0, .int .i64 0] 33 (0, 0)) (bk BK652.out) hb); have n2_ := Aside0.mk (below_step (by repeat (first | (with_reducible first | exact HB.out | apply below_alloc | apply pw_below_drewN | apply below_drew1 | refine below_set ?_ GE652.out) | exact HB.out)) hb); have n3_ := Aside0.mk (hbox); have n4_ := Aside0.mk ((by rw [hg]; exact (below_size (by repeat (first | (with_reducible first | exact HB.out | apply below_alloc | apply pw_below_drewN | apply below_drew1 | refine below_set ?_ GE652.out) | exact HB.out))) : w.heap.size ≤ gb661)); have n5_ := Aside0.mk ((by rw [hg]; exact (below_size (by repeat (first | (with_reducible first | exact HB.out | apply below_alloc | apply pw_below_drewN | apply below_drew1 | refine below_set ?_ GE652.out) | exact HB.out))) : w.heap.size ≤ gb661)); have n6_ := Aside0.mk ((by rw [hg]; exact Nat.ne_of_lt (blk_lt (g := gb652) (o := .cells #[.int .u8 0, .int .i64 0, .int .i64 0, .int .i64 0, .int .i64 0] 33 (0, 0)) (bk BK652.out)) : gb652 ≠ gb661)); have n7_ := Aside0.mk ((by rw [hg]; exact Nat.ne_of_gt (blk_lt (g := gb652) (o := .cells #[.int .u8 0, .int .i64 0, .int .i64 0, .int .i64 0, .int .i64 0] 33 (0, 0)) (bk BK652.out)) : gb661 ≠ gb652)); clear HO658; clear BK652; clear HB; have HO658 := n0_; have BK652 := n1_; have HB := n2_; have BK661 := n3_; have GW661 := n4_; have GE661 := n5_; have NB652_661 := n6_; have NB661_652 := n7_; clear n0_ n1_ n2_ n3_ n4_ n5_ n6_ n7_; clear hb hbox hg; have hnb12 := NB661_652.out; have hnc12 := NB652_661.out; obtain ⟨hcz13_0, hcz13_1, hcz13_2, hcz13_3, hcz13_4, hfz13_0, hfz13_1, hfz13_2, hfz13_3, hfz13_4⟩ := cells5 BK661.out))
 (try simp only [Act.put, List.setIfInBounds_toArray, List.set_cons_zero, List.set_cons_succ])
 go_cut [] (fun wc => ∃ (kq : Nat) (x662004_5 : Int), Aside0 (quoinref04_Read.j0 kq a1 t653 a0 0 0 0 x662004_5 = some (r1, r2, r3, r4, r5, r6)) ∧ Aside0 (kq ≤ k) ∧ Aside0 (wc.heap[gb652]? = some (.cells #[.int .u8 0, .int .i64 0, .int .i64 0, .int .i64 0, .int .i64 0] 33 (0, 0))) ∧ Aside0 (wc.heap[gb661]? = some (.cells #[.int .u8 a0, .int .i64 0, .int .i64 0, .int .i64 0, .int .i64 x662004_5] 33 (0, 0))) ∧ Aside0 (Below w.heap.size w wc))
 case first =>
  have H := HC6.out
  clear HC6
  by_cases c14 : t653 = 73
  ·rw [if_pos c14] at H
   have c14b0 := beq_iff_eq.mpr c14
   have c14b1 := bne_eq_false_iff_eq.mpr c14
   clear c14
   (first | rw [c14b0] | (simp only [i64_w, i32_w]; rw [c14b0]) | rw [c14b1] | skip)
   replace H := Option.bind_eq_some_iff.mp H
   obtain ⟨t662, A150, H⟩ := H
   have A15 := Aside0.mk A150
   clear A150
   have H' := Aside0.mk H
   clear H
   go_wp2_with (first | ((with_reducible refine gate_callee (f := 88) rfl ?_); refine goesL_ (some 46) rfl rfl Tryd.func88 (by kernel_rfl) rfl #[.int .u32 t659, .int .i64 (t655.length : Int)] rfl (by (try simp only [List.map_toArray, List.map_cons, List.map_nil]); first | done | rfl) ?_; (with_reducible refine (quoinref01_Signed.calls k t659 (t655.length : Int) t662 _ A15.out).mono ?_); rintro e w' ⟨rfl, ⟨nd, rfl⟩⟩; refine ⟨_, rfl, ?_⟩; have hnb16 := NB661_652.out; have hnc16 := NB652_661.out; obtain ⟨hcz17_0, hcz17_1, hcz17_2, hcz17_3, hcz17_4, hfz17_0, hfz17_1, hfz17_2, hfz17_3, hfz17_4⟩ := cells5 BK661.out))
   go_meet
   case rel => exact ⟨_, (t662), H', ⟨by first | omega | exact Nat.le_refl _⟩, ⟨by repeat (first | (with_reducible first | exact BK652.out | refine blk_drewN ?_ _ | refine blk_drew ?_ | refine blk_alloc ?_ _) | refine blk_far ?_ NB652_661.out _ | exact BK652.out)⟩, ⟨by (with_reducible repeat (first | refine blk_drewN ?_ _ | refine blk_drew ?_ | refine blk_alloc ?_ _)); refine blk_put (cs := #[.int .u8 a0, .int .i64 0, .int .i64 0, .int .i64 0, .int .i64 (wrap64 (t659))]) ?_ 4 _ rfl; (with_reducible repeat (first | refine blk_drewN ?_ _ | refine blk_drew ?_ | refine blk_alloc ?_ _)); refine blk_put (cs := #[.int .u8 a0, .int .i64 0, .int .i64 0, .int .i64 0, .int .i64 0]) ?_ 4 _ rfl; (with_reducible repeat (first | refine blk_drewN ?_ _ | refine blk_drew ?_ | refine blk_alloc ?_ _)); refine blk_put (cs := #[.int .u8 a0, .int .i64 0, .int .i64 0, .int .i64 0, .int .i64 0]) ?_ 3 _ rfl; (with_reducible repeat (first | refine blk_drewN ?_ _ | refine blk_drew ?_ | refine blk_alloc ?_ _)); refine blk_put (cs := #[.int .u8 a0, .int .i64 0, .int .i64 0, .int .i64 0, .int .i64 0]) ?_ 2 _ rfl; (with_reducible repeat (first | refine blk_drewN ?_ _ | refine blk_drew ?_ | refine blk_alloc ?_ _)); refine blk_put (cs := #[.int .u8 a0, .int .i64 0, .int .i64 0, .int .i64 0, .int .i64 0]) ?_ 1 _ rfl; (with_reducible repeat (first | refine blk_drewN ?_ _ | refine blk_drew ?_ | refine blk_alloc ?_ _)); refine blk_put (cs := #[.int .u8 0, .int .i64 0, .int .i64 0, .int .i64 0, .int .i64 0]) ?_ 0 _ rfl; (with_reducible repeat (first | refine blk_drewN ?_ _ | refine blk_drew ?_ | refine blk_alloc ?_ _)); exact BK661.out⟩, ⟨by repeat (first | (with_reducible first | exact HB.out | apply below_alloc | apply pw_below_drewN | apply below_drew1 | refine below_set ?_ GE652.out | refine below_set ?_ GE661.out) | exact HB.out)⟩⟩
  ·rw [if_neg c14] at H
   have c14b0 := beq_eq_false_iff_ne.mpr c14
   have c14b1 := bne_iff_ne.mpr c14
   (first | rw [c14b0] | (simp only [i64_w, i32_w]; rw [c14b0]) | rw [c14b1] | skip)
   by_cases c18 : t653 = 76
   ·rw [if_pos c18] at H
    have c18b0 := beq_iff_eq.mpr c18
    have c18b1 := bne_eq_false_iff_eq.mpr c18
    clear c18
    replace H := Option.bind_eq_some_iff.mp H
    obtain ⟨t663, A190, H⟩ := H
    have A19 := Aside0.mk A190
    clear A190
    have H' := Aside0.mk H
    clear H
    go_wp2_with (first | ((with_reducible refine gate_callee (f := 88) rfl ?_); refine goesL_ (some 46) rfl rfl Tryd.func88 (by kernel_rfl) rfl #[.int .u32 t659, .int .i64 (t655.length : Int)] rfl (by (try simp only [List.map_toArray, List.map_cons, List.map_nil]); first | done | rfl) ?_; (with_reducible refine (quoinref01_Signed.calls k t659 (t655.length : Int) t663 _ A19.out).mono ?_); rintro e w' ⟨rfl, ⟨nd, rfl⟩⟩; refine ⟨_, rfl, ?_⟩; have hnb20 := NB661_652.out; have hnc20 := NB652_661.out; obtain ⟨hcz21_0, hcz21_1, hcz21_2, hcz21_3, hcz21_4, hfz21_0, hfz21_1, hfz21_2, hfz21_3, hfz21_4⟩ := cells5 BK661.out))
    go_meet
    case rel => exact ⟨_, (t663), H', ⟨by first | omega | exact Nat.le_refl _⟩, ⟨by repeat (first | (with_reducible first | exact BK652.out | refine blk_drewN ?_ _ | refine blk_drew ?_ | refine blk_alloc ?_ _) | refine blk_far ?_ NB652_661.out _ | exact BK652.out)⟩, ⟨by (with_reducible repeat (first | refine blk_drewN ?_ _ | refine blk_drew ?_ | refine blk_alloc ?_ _)); refine blk_put (cs := #[.int .u8 a0, .int .i64 0, .int .i64 0, .int .i64 0, .int .i64 (wrap64 (t659))]) ?_ 4 _ rfl; (with_reducible repeat (first | refine blk_drewN ?_ _ | refine blk_drew ?_ | refine blk_alloc ?_ _)); refine blk_put (cs := #[.int .u8 a0, .int .i64 0, .int .i64 0, .int .i64 0, .int .i64 0]) ?_ 4 _ rfl; (with_reducible repeat (first | refine blk_drewN ?_ _ | refine blk_drew ?_ | refine blk_alloc ?_ _)); refine blk_put (cs := #[.int .u8 a0, .int .i64 0, .int .i64 0, .int .i64 0, .int .i64 0]) ?_ 3 _ rfl; (with_reducible repeat (first | refine blk_drewN ?_ _ | refine blk_drew ?_ | refine blk_alloc ?_ _)); refine blk_put (cs := #[.int .u8 a0, .int .i64 0, .int .i64 0, .int .i64 0, .int .i64 0]) ?_ 2 _ rfl; (with_reducible repeat (first | refine blk_drewN ?_ _ | refine blk_drew ?_ | refine blk_alloc ?_ _)); refine blk_put (cs := #[.int .u8 a0, .int .i64 0, .int .i64 0, .int .i64 0, .int .i64 0]) ?_ 1 _ rfl; (with_reducible repeat (first | refine blk_drewN ?_ _ | refine blk_drew ?_ | refine blk_alloc ?_ _)); refine blk_put (cs := #[.int .u8 0, .int .i64 0, .int .i64 0, .int .i64 0, .int .i64 0]) ?_ 0 _ rfl; (with_reducible repeat (first | refine blk_drewN ?_ _ | refine blk_drew ?_ | refine blk_alloc ?_ _)); exact BK661.out⟩, ⟨by repeat (first | (with_reducible first | exact HB.out | apply below_alloc | apply pw_below_drewN | apply below_drew1 | refine below_set ?_ GE652.out | refine below_set ?_ GE661.out) | exact HB.out)⟩⟩
   ·rw [if_neg c18] at H
    have c18b0 := beq_eq_false_iff_ne.mpr c18
    have c18b1 := bne_iff_ne.mpr c18
    by_cases c22 : t653 = 83
    ·rw [if_pos c22] at H
     have c22b0 := beq_iff_eq.mpr c22
     have c22b1 := bne_eq_false_iff_eq.mpr c22
     clear c22
     replace H := Option.bind_eq_some_iff.mp H
     obtain ⟨t664, A230, H⟩ := H
     have A23 := Aside0.mk A230
     clear A230
     have H' := Aside0.mk H
     clear H
     go_wp2_with (first | ((with_reducible refine gate_callee (f := 88) rfl ?_); refine goesL_ (some 46) rfl rfl Tryd.func88 (by kernel_rfl) rfl #[.int .u32 t659, .int .i64 (t655.length : Int)] rfl (by (try simp only [List.map_toArray, List.map_cons, List.map_nil]); first | done | rfl) ?_; (with_reducible refine (quoinref01_Signed.calls k t659 (t655.length : Int) t664 _ A23.out).mono ?_); rintro e w' ⟨rfl, ⟨nd, rfl⟩⟩; refine ⟨_, rfl, ?_⟩; have hnb24 := NB661_652.out; have hnc24 := NB652_661.out; obtain ⟨hcz25_0, hcz25_1, hcz25_2, hcz25_3, hcz25_4, hfz25_0, hfz25_1, hfz25_2, hfz25_3, hfz25_4⟩ := cells5 BK661.out))
     go_meet
     case rel => exact ⟨_, (t664), H', ⟨by first | omega | exact Nat.le_refl _⟩, ⟨by repeat (first | (with_reducible first | exact BK652.out | refine blk_drewN ?_ _ | refine blk_drew ?_ | refine blk_alloc ?_ _) | refine blk_far ?_ NB652_661.out _ | exact BK652.out)⟩, ⟨by (with_reducible repeat (first | refine blk_drewN ?_ _ | refine blk_drew ?_ | refine blk_alloc ?_ _)); refine blk_put (cs := #[.int .u8 a0, .int .i64 0, .int .i64 0, .int .i64 0, .int .i64 (wrap64 (t659))]) ?_ 4 _ rfl; (with_reducible repeat (first | refine blk_drewN ?_ _ | refine blk_drew ?_ | refine blk_alloc ?_ _)); refine blk_put (cs := #[.int .u8 a0, .int .i64 0, .int .i64 0, .int .i64 0, .int .i64 0]) ?_ 4 _ rfl; (with_reducible repeat (first | refine blk_drewN ?_ _ | refine blk_drew ?_ | refine blk_alloc ?_ _)); refine blk_put (cs := #[.int .u8 a0, .int .i64 0, .int .i64 0, .int .i64 0, .int .i64 0]) ?_ 3 _ rfl; (with_reducible repeat (first | refine blk_drewN ?_ _ | refine blk_drew ?_ | refine blk_alloc ?_ _)); refine blk_put (cs := #[.int .u8 a0, .int .i64 0, .int .i64 0, .int .i64 0, .int .i64 0]) ?_ 2 _ rfl; (with_reducible repeat (first | refine blk_drewN ?_ _ | refine blk_drew ?_ | refine blk_alloc ?_ _)); refine blk_put (cs := #[.int .u8 a0, .int .i64 0, .int .i64 0, .int .i64 0, .int .i64 0]) ?_ 1 _ rfl; (with_reducible repeat (first | refine blk_drewN ?_ _ | refine blk_drew ?_ | refine blk_alloc ?_ _)); refine blk_put (cs := #[.int .u8 0, .int .i64 0, .int .i64 0, .int .i64 0, .int .i64 0]) ?_ 0 _ rfl; (with_reducible repeat (first | refine blk_drewN ?_ _ | refine blk_drew ?_ | refine blk_alloc ?_ _)); exact BK661.out⟩, ⟨by repeat (first | (with_reducible first | exact HB.out | apply below_alloc | apply pw_below_drewN | apply below_drew1 | refine below_set ?_ GE652.out | refine below_set ?_ GE661.out) | exact HB.out)⟩⟩
    ·rw [if_neg c22] at H
     have c22b0 := beq_eq_false_iff_ne.mpr c22
     have c22b1 := bne_iff_ne.mpr c22
     by_cases c26 : t653 = 74
     ·rw [if_pos c26] at H
      have c26b0 := beq_iff_eq.mpr c26
      have c26b1 := bne_eq_false_iff_eq.mpr c26
      clear c26
      replace H := Option.bind_eq_some_iff.mp H
      obtain ⟨t665, A270, H⟩ := H
      have A27 := Aside0.mk A270
      clear A270
      have H' := Aside0.mk H
      clear H
      go_wp2_with (first | ((with_reducible refine gate_callee (f := 88) rfl ?_); refine goesL_ (some 46) rfl rfl Tryd.func88 (by kernel_rfl) rfl #[.int .u32 t659, .int .i64 (t655.length : Int)] rfl (by (try simp only [List.map_toArray, List.map_cons, List.map_nil]); first | done | rfl) ?_; (with_reducible refine (quoinref01_Signed.calls k t659 (t655.length : Int) t665 _ A27.out).mono ?_); rintro e w' ⟨rfl, ⟨nd, rfl⟩⟩; refine ⟨_, rfl, ?_⟩; have hnb28 := NB661_652.out; have hnc28 := NB652_661.out; obtain ⟨hcz29_0, hcz29_1, hcz29_2, hcz29_3, hcz29_4, hfz29_0, hfz29_1, hfz29_2, hfz29_3, hfz29_4⟩ := cells5 BK661.out))
      go_meet
      case rel => exact ⟨_, (t665), H', ⟨by first | omega | exact Nat.le_refl _⟩, ⟨by repeat (first | (with_reducible first | exact BK652.out | refine blk_drewN ?_ _ | refine blk_drew ?_ | refine blk_alloc ?_ _) | refine blk_far ?_ NB652_661.out _ | exact BK652.out)⟩, ⟨by (with_reducible repeat (first | refine blk_drewN ?_ _ | refine blk_drew ?_ | refine blk_alloc ?_ _)); refine blk_put (cs := #[.int .u8 a0, .int .i64 0, .int .i64 0, .int .i64 0, .int .i64 (wrap64 (t659))]) ?_ 4 _ rfl; (with_reducible repeat (first | refine blk_drewN ?_ _ | refine blk_drew ?_ | refine blk_alloc ?_ _)); refine blk_put (cs := #[.int .u8 a0, .int .i64 0, .int .i64 0, .int .i64 0, .int .i64 0]) ?_ 4 _ rfl; (with_reducible repeat (first | refine blk_drewN ?_ _ | refine blk_drew ?_ | refine blk_alloc ?_ _)); refine blk_put (cs := #[.int .u8 a0, .int .i64 0, .int .i64 0, .int .i64 0, .int .i64 0]) ?_ 3 _ rfl; (with_reducible repeat (first | refine blk_drewN ?_ _ | refine blk_drew ?_ | refine blk_alloc ?_ _)); refine blk_put (cs := #[.int .u8 a0, .int .i64 0, .int .i64 0, .int .i64 0, .int .i64 0]) ?_ 2 _ rfl; (with_reducible repeat (first | refine blk_drewN ?_ _ | refine blk_drew ?_ | refine blk_alloc ?_ _)); refine blk_put (cs := #[.int .u8 a0, .int .i64 0, .int .i64 0, .int .i64 0, .int .i64 0]) ?_ 1 _ rfl; (with_reducible repeat (first | refine blk_drewN ?_ _ | refine blk_drew ?_ | refine blk_alloc ?_ _)); refine blk_put (cs := #[.int .u8 0, .int .i64 0, .int .i64 0, .int .i64 0, .int .i64 0]) ?_ 0 _ rfl; (with_reducible repeat (first | refine blk_drewN ?_ _ | refine blk_drew ?_ | refine blk_alloc ?_ _)); exact BK661.out⟩, ⟨by repeat (first | (with_reducible first | exact HB.out | apply below_alloc | apply pw_below_drewN | apply below_drew1 | refine below_set ?_ GE652.out | refine below_set ?_ GE661.out) | exact HB.out)⟩⟩
     ·rw [if_neg c26] at H
      have c26b0 := beq_eq_false_iff_ne.mpr c26
      have c26b1 := bne_iff_ne.mpr c26
      by_cases c30 : t653 = 66
      ·rw [if_pos c30] at H
       have c30b0 := beq_iff_eq.mpr c30
       have c30b1 := bne_eq_false_iff_eq.mpr c30
       clear c30
       replace H := Option.bind_eq_some_iff.mp H
       obtain ⟨t666, A310, H⟩ := H
       have A31 := Aside0.mk A310
       clear A310
       have H' := Aside0.mk H
       clear H
       go_wp2_with (first | ((with_reducible refine gate_callee (f := 88) rfl ?_); refine goesL_ (some 46) rfl rfl Tryd.func88 (by kernel_rfl) rfl #[.int .u32 t659, .int .i64 (t655.length : Int)] rfl (by (try simp only [List.map_toArray, List.map_cons, List.map_nil]); first | done | rfl) ?_; (with_reducible refine (quoinref01_Signed.calls k t659 (t655.length : Int) t666 _ A31.out).mono ?_); rintro e w' ⟨rfl, ⟨nd, rfl⟩⟩; refine ⟨_, rfl, ?_⟩; have hnb32 := NB661_652.out; have hnc32 := NB652_661.out; obtain ⟨hcz33_0, hcz33_1, hcz33_2, hcz33_3, hcz33_4, hfz33_0, hfz33_1, hfz33_2, hfz33_3, hfz33_4⟩ := cells5 BK661.out))
       go_meet
       case rel => exact ⟨_, (t666), H', ⟨by first | omega | exact Nat.le_refl _⟩, ⟨by repeat (first | (with_reducible first | exact BK652.out | refine blk_drewN ?_ _ | refine blk_drew ?_ | refine blk_alloc ?_ _) | refine blk_far ?_ NB652_661.out _ | exact BK652.out)⟩, ⟨by (with_reducible repeat (first | refine blk_drewN ?_ _ | refine blk_drew ?_ | refine blk_alloc ?_ _)); refine blk_put (cs := #[.int .u8 a0, .int .i64 0, .int .i64 0, .int .i64 0, .int .i64 (wrap64 (t659))]) ?_ 4 _ rfl; (with_reducible repeat (first | refine blk_drewN ?_ _ | refine blk_drew ?_ | refine blk_alloc ?_ _)); refine blk_put (cs := #[.int .u8 a0, .int .i64 0, .int .i64 0, .int .i64 0, .int .i64 0]) ?_ 4 _ rfl; (with_reducible repeat (first | refine blk_drewN ?_ _ | refine blk_drew ?_ | refine blk_alloc ?_ _)); refine blk_put (cs := #[.int .u8 a0, .int .i64 0, .int .i64 0, .int .i64 0, .int .i64 0]) ?_ 3 _ rfl; (with_reducible repeat (first | refine blk_drewN ?_ _ | refine blk_drew ?_ | refine blk_alloc ?_ _)); refine blk_put (cs := #[.int .u8 a0, .int .i64 0, .int .i64 0, .int .i64 0, .int .i64 0]) ?_ 2 _ rfl; (with_reducible repeat (first | refine blk_drewN ?_ _ | refine blk_drew ?_ | refine blk_alloc ?_ _)); refine blk_put (cs := #[.int .u8 a0, .int .i64 0, .int .i64 0, .int .i64 0, .int .i64 0]) ?_ 1 _ rfl; (with_reducible repeat (first | refine blk_drewN ?_ _ | refine blk_drew ?_ | refine blk_alloc ?_ _)); refine blk_put (cs := #[.int .u8 0, .int .i64 0, .int .i64 0, .int .i64 0, .int .i64 0]) ?_ 0 _ rfl; (with_reducible repeat (first | refine blk_drewN ?_ _ | refine blk_drew ?_ | refine blk_alloc ?_ _)); exact BK661.out⟩, ⟨by repeat (first | (with_reducible first | exact HB.out | apply below_alloc | apply pw_below_drewN | apply below_drew1 | refine below_set ?_ GE652.out | refine below_set ?_ GE661.out) | exact HB.out)⟩⟩
      ·rw [if_neg c30] at H
       have c30b0 := beq_eq_false_iff_ne.mpr c30
       have c30b1 := bne_iff_ne.mpr c30
       have H' := Aside0.mk H
       clear H
       go_wp2
       go_meet
       case rel => exact ⟨_, (wrap64 (t659)), H', ⟨by first | omega | exact Nat.le_refl _⟩, ⟨by repeat (first | (with_reducible first | exact BK652.out | refine blk_drewN ?_ _ | refine blk_drew ?_ | refine blk_alloc ?_ _) | refine blk_far ?_ NB652_661.out _ | exact BK652.out)⟩, ⟨by (with_reducible repeat (first | refine blk_drewN ?_ _ | refine blk_drew ?_ | refine blk_alloc ?_ _)); refine blk_put (cs := #[.int .u8 a0, .int .i64 0, .int .i64 0, .int .i64 0, .int .i64 0]) ?_ 4 _ rfl; (with_reducible repeat (first | refine blk_drewN ?_ _ | refine blk_drew ?_ | refine blk_alloc ?_ _)); refine blk_put (cs := #[.int .u8 a0, .int .i64 0, .int .i64 0, .int .i64 0, .int .i64 0]) ?_ 3 _ rfl; (with_reducible repeat (first | refine blk_drewN ?_ _ | refine blk_drew ?_ | refine blk_alloc ?_ _)); refine blk_put (cs := #[.int .u8 a0, .int .i64 0, .int .i64 0, .int .i64 0, .int .i64 0]) ?_ 2 _ rfl; (with_reducible repeat (first | refine blk_drewN ?_ _ | refine blk_drew ?_ | refine blk_alloc ?_ _)); refine blk_put (cs := #[.int .u8 a0, .int .i64 0, .int .i64 0, .int .i64 0, .int .i64 0]) ?_ 1 _ rfl; (with_reducible repeat (first | refine blk_drewN ?_ _ | refine blk_drew ?_ | refine blk_alloc ?_ _)); refine blk_put (cs := #[.int .u8 0, .int .i64 0, .int .i64 0, .int .i64 0, .int .i64 0]) ?_ 0 _ rfl; (with_reducible repeat (first | refine blk_drewN ?_ _ | refine blk_drew ?_ | refine blk_alloc ?_ _)); exact BK661.out⟩, ⟨by repeat (first | (with_reducible first | exact HB.out | apply below_alloc | apply pw_below_drewN | apply below_drew1 | refine below_set ?_ GE652.out | refine below_set ?_ GE661.out) | exact HB.out)⟩⟩
 case rest =>
  clear HC6
  try clear hcz13_0
  try clear hcz13_1
  try clear hcz13_2
  try clear hcz13_3
  try clear hcz13_4
  try clear hfz13_0
  try clear hfz13_1
  try clear hfz13_2
  try clear hfz13_3
  try clear hfz13_4
  obtain ⟨kq, x662004_5, HA, HJ5, BK652, BK661, HB⟩ := hcut
  cases kq with
  | zero => exact absurd HA.out (by simp [quoinref04_Read.j0])
  | succ kj5 =>
   have H := HA.out
   clear HA
   simp only [quoinref04_Read.j0] at H
   have HC34 := Aside0.mk H
   clear H
   go_upto_region 12 with (fail)
   go_cut [53] (fun v53 wc => ∃ (kq : Nat) (x53_33 : Bool), v53 = .bool x53_33 ∧ Aside0 (quoinref04_Read.j1 kq a1 t653 x53_33 a0 0 0 0 x662004_5 = some (r1, r2, r3, r4, r5, r6)) ∧ Aside0 (kq ≤ kj5) ∧ Aside0 (wc.heap[gb652]? = some (.cells #[.int .u8 0, .int .i64 0, .int .i64 0, .int .i64 0, .int .i64 0] 33 (0, 0))) ∧ Aside0 (wc.heap[gb661]? = some (.cells #[.int .u8 a0, .int .i64 0, .int .i64 0, .int .i64 0, .int .i64 x662004_5] 33 (0, 0))) ∧ Aside0 (Below w.heap.size w wc))
   case first =>
    have H := HC34.out
    clear HC34
    by_cases c35 : t653 = 74
    ·rw [if_pos c35] at H
     have c35b0 := beq_iff_eq.mpr c35
     have c35b1 := bne_eq_false_iff_eq.mpr c35
     clear c35
     (first | rw [c35b0] | (simp only [i64_w, i32_w]; rw [c35b0]) | rw [c35b1] | skip)
     have H' := Aside0.mk H
     clear H
     go_wp2
     go_meet
     case rel => exact ⟨_, (true), (by first | rfl | (simp; done) | (simp only [i64_w, i32_w]; first | done | rfl | (simp; done)) | (simp [*]; done)), H', ⟨by have := HJ5.out; first | omega | exact Nat.le_refl _⟩, ⟨bk BK652.out⟩, ⟨bk BK661.out⟩, ⟨by repeat (first | (with_reducible first | exact HB.out | apply below_alloc | apply pw_below_drewN | apply below_drew1 | refine below_set ?_ GE652.out | refine below_set ?_ GE661.out) | exact HB.out)⟩⟩
    ·rw [if_neg c35] at H
     have c35b0 := beq_eq_false_iff_ne.mpr c35
     have c35b1 := bne_iff_ne.mpr c35
     (first | rw [c35b0] | (simp only [i64_w, i32_w]; rw [c35b0]) | rw [c35b1] | skip)
     have H' := Aside0.mk H
     clear H
     go_wp2
     go_meet
     case rel => exact ⟨_, ((t653 == 66)), (by first | rfl | (simp; done) | (simp only [i64_w, i32_w]; first | done | rfl | (simp; done)) | (simp [*]; done)), H', ⟨by have := HJ5.out; first | omega | exact Nat.le_refl _⟩, ⟨bk BK652.out⟩, ⟨bk BK661.out⟩, ⟨by repeat (first | (with_reducible first | exact HB.out | apply below_alloc | apply pw_below_drewN | apply below_drew1 | refine below_set ?_ GE652.out | refine below_set ?_ GE661.out) | exact HB.out)⟩⟩
   case rest =>
    clear HC34
    try clear c1
    try clear c2
    try clear p2
    try clear c3
    try clear c4
    try clear p6
    try clear c7
    try clear c8
    try clear c12
    try clear c14
    try clear c14b0
    try clear c14b1
    try clear c16
    try clear c18
    try clear c18b0
    try clear c18b1
    try clear c20
    try clear c22
    try clear c22b0
    try clear c22b1
    try clear c24
    try clear c26
    try clear c26b0
    try clear c26b1
    try clear c28
    try clear c30
    try clear c30b0
    try clear c30b1
    try clear c32
    try clear hcz13_0
    try clear hcz13_1
    try clear hcz13_2
    try clear hcz13_3
    try clear hcz13_4
    try clear hcz17_0
    try clear hcz17_1
    try clear hcz17_2
    try clear hcz17_3
    try clear hcz17_4
    try clear hcz21_0
    try clear hcz21_1
    try clear hcz21_2
    try clear hcz21_3
    try clear hcz21_4
    try clear hcz25_0
    try clear hcz25_1
    try clear hcz25_2
    try clear hcz25_3
    try clear hcz25_4
    try clear hcz29_0
    try clear hcz29_1
    try clear hcz29_2
    try clear hcz29_3
    try clear hcz29_4
    try clear hcz33_0
    try clear hcz33_1
    try clear hcz33_2
    try clear hcz33_3
    try clear hcz33_4
    try clear hfz13_0
    try clear hfz13_1
    try clear hfz13_2
    try clear hfz13_3
    try clear hfz13_4
    try clear hfz17_0
    try clear hfz17_1
    try clear hfz17_2
    try clear hfz17_3
    try clear hfz17_4
    try clear hfz21_0
    try clear hfz21_1
    try clear hfz21_2
    try clear hfz21_3
    try clear hfz21_4
    try clear hfz25_0
    try clear hfz25_1
    try clear hfz25_2
    try clear hfz25_3
    try clear hfz25_4
    try clear hfz29_0
    try clear hfz29_1
    try clear hfz29_2
    try clear hfz29_3
    try clear hfz29_4
    try clear hfz33_0
    try clear hfz33_1
    try clear hfz33_2
    try clear hfz33_3
    try clear hfz33_4
    try clear p2
    try clear p6
    obtain ⟨kq, x53_33, rfl, HA, HJ33, BK652, BK661, HB⟩ := hcut
    cases kq with
    | zero => exact absurd HA.out (by simp [quoinref04_Read.j1])
    | succ kj33 =>
     have H := HA.out
     clear HA
     simp only [quoinref04_Read.j1] at H
     have HC36 := Aside0.mk H
     clear H
     go_upto_if 53 with (fail)
     go_cut [] (fun wc => ∃ (kq : Nat) (x662004_35 : Int), Aside0 (quoinref04_Read.j2 kq a1 t653 a0 0 0 0 x662004_35 = some (r1, r2, r3, r4, r5, r6)) ∧ Aside0 (kq ≤ kj33) ∧ Aside0 (wc.heap[gb652]? = some (.cells #[.int .u8 0, .int .i64 0, .int .i64 0, .int .i64 0, .int .i64 0] 33 (0, 0))) ∧ Aside0 (wc.heap[gb661]? = some (.cells #[.int .u8 a0, .int .i64 0, .int .i64 0, .int .i64 0, .int .i64 x662004_35] 33 (0, 0))) ∧ Aside0 (Below w.heap.size w wc))
     case first =>
      have H := HC36.out
      clear HC36
      by_cases c37 : x53_33 = true
      ·subst c37
       have H1 : (quoinref04_Read.j2 kj33 a1 t653 a0 0 0 0 (wrap64 (2 * x662004_5))) = some (r1, r2, r3, r4, r5, r6) := by rw [if_pos rfl] at H; exact H
       clear H
       have H := H1
       clear H1
       have H' := Aside0.mk H
       clear H
       have hnb38 := NB661_652.out
       have hnc38 := NB652_661.out
       obtain ⟨hcz39_0, hcz39_1, hcz39_2, hcz39_3, hcz39_4, hfz39_0, hfz39_1, hfz39_2, hfz39_3, hfz39_4⟩ := cells5 BK661.out
       go_wp2
       go_meet
       case rel => exact ⟨_, (wrap64 (2 * x662004_5)), H', ⟨by have := HJ5.out; have := HJ33.out; first | omega | exact Nat.le_refl _⟩, ⟨by (with_reducible repeat (first | refine blk_drewN ?_ _ | refine blk_drew ?_ | refine blk_alloc ?_ _)); refine blk_far ?_ NB652_661.out _; (with_reducible repeat (first | refine blk_drewN ?_ _ | refine blk_drew ?_ | refine blk_alloc ?_ _)); exact BK652.out⟩, ⟨by (with_reducible repeat (first | refine blk_drewN ?_ _ | refine blk_drew ?_ | refine blk_alloc ?_ _)); refine blk_put (cs := #[.int .u8 a0, .int .i64 0, .int .i64 0, .int .i64 0, .int .i64 x662004_5]) ?_ 4 _ rfl; (with_reducible repeat (first | refine blk_drewN ?_ _ | refine blk_drew ?_ | refine blk_alloc ?_ _)); exact BK661.out⟩, ⟨by repeat (first | (with_reducible first | exact HB.out | apply below_alloc | apply pw_below_drewN | apply below_drew1 | refine below_set ?_ GE652.out | refine below_set ?_ GE661.out) | exact HB.out)⟩⟩
      ·replace c37 := Bool.eq_false_iff.mpr c37
       subst c37
       have H1 : (quoinref04_Read.j2 kj33 a1 t653 a0 0 0 0 x662004_5) = some (r1, r2, r3, r4, r5, r6) := by rw [if_neg (show ¬ (false = true) by decide)] at H; exact H
       clear H
       have H := H1
       clear H1
       have H' := Aside0.mk H
       clear H
       go_wp2
       go_meet
       case rel => exact ⟨_, (x662004_5), H', ⟨by have := HJ5.out; have := HJ33.out; first | omega | exact Nat.le_refl _⟩, ⟨bk BK652.out⟩, ⟨bk BK661.out⟩, ⟨by repeat (first | (with_reducible first | exact HB.out | apply below_alloc | apply pw_below_drewN | apply below_drew1 | refine below_set ?_ GE652.out | refine below_set ?_ GE661.out) | exact HB.out)⟩⟩
     case rest =>
      clear HC36
      try clear c1
      try clear c2
      try clear p2
      try clear c3
      try clear c4
      try clear p6
      try clear c7
      try clear c8
      try clear c12
      try clear c14
      try clear c14b0
      try clear c14b1
      try clear c16
      try clear c18
      try clear c18b0
      try clear c18b1
      try clear c20
      try clear c22
      try clear c22b0
      try clear c22b1
      try clear c24
      try clear c26
      try clear c26b0
      try clear c26b1
      try clear c28
      try clear c30
      try clear c30b0
      try clear c30b1
      try clear c32
      try clear c35
      try clear c35b0
      try clear c35b1
      try clear hcz13_0
      try clear hcz13_1
      try clear hcz13_2
      try clear hcz13_3
      try clear hcz13_4
      try clear hcz17_0
      try clear hcz17_1
      try clear hcz17_2
      try clear hcz17_3
      try clear hcz17_4
      try clear hcz21_0
      try clear hcz21_1
      try clear hcz21_2
      try clear hcz21_3
      try clear hcz21_4
      try clear hcz25_0
      try clear hcz25_1
      try clear hcz25_2
      try clear hcz25_3
      try clear hcz25_4
      try clear hcz29_0
      try clear hcz29_1
      try clear hcz29_2
      try clear hcz29_3
      try clear hcz29_4
      try clear hcz33_0
      try clear hcz33_1
      try clear hcz33_2
      try clear hcz33_3
      try clear hcz33_4
      try clear hfz13_0
      try clear hfz13_1
      try clear hfz13_2
      try clear hfz13_3
      try clear hfz13_4
      try clear hfz17_0
      try clear hfz17_1
      try clear hfz17_2
      try clear hfz17_3
      try clear hfz17_4
      try clear hfz21_0
      try clear hfz21_1
      try clear hfz21_2
      try clear hfz21_3
      try clear hfz21_4
      try clear hfz25_0
      try clear hfz25_1
      try clear hfz25_2
      try clear hfz25_3
      try clear hfz25_4
      try clear hfz29_0
      try clear hfz29_1
      try clear hfz29_2
      try clear hfz29_3
      try clear hfz29_4
      try clear hfz33_0
      try clear hfz33_1
      try clear hfz33_2
      try clear hfz33_3
      try clear hfz33_4
      try clear p2
      try clear p6
      obtain ⟨kq, x662004_35, HA, HJ35, BK652, BK661, HB⟩ := hcut
      cases kq with
      | zero => exact absurd HA.out (by simp [quoinref04_Read.j2])
      | succ kj35 =>
       have H := HA.out
       clear HA
       simp only [quoinref04_Read.j2] at H
       replace H := Option.bind_eq_some_iff.mp H
       obtain ⟨⟨t667, t668, t669⟩, A400, H⟩ := H
       have A40 := Aside0.mk A400
       clear A400
       have HC41 := Aside0.mk H
       clear H
       go_upto_if 64 with (first | ((with_reducible refine gate_callee (f := 71) rfl ?_); refine goesL_ (some 60) rfl rfl Tryd.func71 (by kernel_rfl) rfl #[.int .u8 t653] rfl (by (try simp only [List.map_toArray, List.map_cons, List.map_nil]); first | done | rfl) ?_; (with_reducible refine (quoinref04_has.calls kj35 t653 t667 t668 t669 _ A40.out).mono ?_); rintro e w42 ⟨rfl, hb⟩; refine ⟨_, rfl, ?_⟩; have n0_ := Aside0.mk (blk_below (g := gb652) (o := .cells #[.int .u8 0, .int .i64 0, .int .i64 0, .int .i64 0, .int .i64 0] 33 (0, 0)) (bk BK652.out) hb); have n1_ := Aside0.mk (blk_below (g := gb661) (o := .cells #[.int .u8 a0, .int .i64 0, .int .i64 0, .int .i64 0, .int .i64 x662004_35] 33 (0, 0)) (bk BK661.out) hb); have n2_ := Aside0.mk (below_step (by repeat (first | (with_reducible first | exact HB.out | apply below_alloc | apply pw_below_drewN | apply below_drew1 | refine below_set ?_ GE652.out | refine below_set ?_ GE661.out) | exact HB.out)) hb); clear BK652; clear BK661; clear HB; have BK652 := n0_; have BK661 := n1_; have HB := n2_; clear n0_ n1_ n2_; (try clear hb); (try clear hb2); (try clear hk); (try clear hi)))
       (try simp only [Act.put, List.setIfInBounds_toArray, List.set_cons_zero, List.set_cons_succ])
       go_cut [] (fun wc => ∃ (kq : Nat) (x662001_40 : Int), Aside0 (quoinref04_Read.j3 kq a1 t668 t669 a0 x662001_40 0 0 x662004_35 = some (r1, r2, r3, r4, r5, r6)) ∧ Aside0 (kq ≤ kj35) ∧ Aside0 (wc.heap[gb652]? = some (.cells #[.int .u8 0, .int .i64 0, .int .i64 0, .int .i64 0, .int .i64 0] 33 (0, 0))) ∧ Aside0 (wc.heap[gb661]? = some (.cells #[.int .u8 a0, .int .i64 x662001_40, .int .i64 0, .int .i64 0, .int .i64 x662004_35] 33 (0, 0))) ∧ Aside0 (Below w.heap.size w wc))
       case first =>
        have H := HC41.out
        clear HC41
        by_cases c43 : t667 = true
        ·subst c43
         have H1 : ((quoinref01_Bits.f kj35 a1 7 5).bind fun t670 => (quoinref04_Read.j3 kj35 a1 t668 t669 a0 (wrap64 (t670)) 0 0 x662004_35)) = some (r1, r2, r3, r4, r5, r6) := by rw [if_pos rfl] at H; exact H
         clear H
         have H := H1
         clear H1
         replace H := Option.bind_eq_some_iff.mp H
         obtain ⟨t670, A440, H⟩ := H
         have A44 := Aside0.mk A440
         clear A440
         have H' := Aside0.mk H
         clear H
         go_wp2_with (first | ((with_reducible refine gate_callee (f := 89) rfl ?_); refine goesL_ (some 66) rfl rfl Tryd.func89 (by kernel_rfl) rfl #[.int .u32 a1, .int .i64 7, .int .i64 5] rfl (by (try simp only [List.map_toArray, List.map_cons, List.map_nil]); first | done | rfl) ?_; (with_reducible refine (quoinref01_Bits.calls kj35 a1 7 5 t670 _ A44.out).mono ?_); rintro e w' ⟨rfl, ⟨nd, rfl⟩⟩; refine ⟨_, rfl, ?_⟩; (try (rw [drewN_self w42]; generalize hq_ : World.drewN w42 _ = w42; have n0_ : Aside0 (w42.heap[gb652]? = some (.cells #[.int .u8 0, .int .i64 0, .int .i64 0, .int .i64 0, .int .i64 0] 33 (0, 0))) := ⟨by rw [← hq_]; exact (bk BK652.out)⟩; have n1_ : Aside0 (w42.heap[gb661]? = some (.cells #[.int .u8 a0, .int .i64 0, .int .i64 0, .int .i64 0, .int .i64 x662004_35] 33 (0, 0))) := ⟨by rw [← hq_]; exact (bk BK661.out)⟩; have n2_ : Aside0 (Below w.heap.size w w42) := ⟨by rw [← hq_]; exact (by repeat (first | (with_reducible first | exact HB.out | apply below_alloc | apply pw_below_drewN | apply below_drew1 | refine below_set ?_ GE652.out | refine below_set ?_ GE661.out) | exact HB.out))⟩; clear BK652 BK661 HB hq_; have BK652 := n0_; have BK661 := n1_; have HB := n2_; clear n0_ n1_ n2_)); have hnb45 := NB661_652.out; have hnc45 := NB652_661.out; obtain ⟨hcz46_0, hcz46_1, hcz46_2, hcz46_3, hcz46_4, hfz46_0, hfz46_1, hfz46_2, hfz46_3, hfz46_4⟩ := cells5 BK661.out))
         go_meet
         case rel => exact ⟨_, (wrap64 (t670)), H', ⟨by have := HJ5.out; have := HJ33.out; have := HJ35.out; first | omega | exact Nat.le_refl _⟩, ⟨by (with_reducible repeat (first | refine blk_drewN ?_ _ | refine blk_drew ?_ | refine blk_alloc ?_ _)); refine blk_far ?_ NB652_661.out _; (with_reducible repeat (first | refine blk_drewN ?_ _ | refine blk_drew ?_ | refine blk_alloc ?_ _)); exact BK652.out⟩, ⟨by (with_reducible repeat (first | refine blk_drewN ?_ _ | refine blk_drew ?_ | refine blk_alloc ?_ _)); refine blk_put (cs := #[.int .u8 a0, .int .i64 0, .int .i64 0, .int .i64 0, .int .i64 x662004_35]) ?_ 1 _ rfl; (with_reducible repeat (first | refine blk_drewN ?_ _ | refine blk_drew ?_ | refine blk_alloc ?_ _)); exact BK661.out⟩, ⟨by repeat (first | (with_reducible first | exact HB.out | apply below_alloc | apply pw_below_drewN | apply below_drew1 | refine below_set ?_ GE652.out | refine below_set ?_ GE661.out) | exact HB.out)⟩⟩
        ·replace c43 := Bool.eq_false_iff.mpr c43
         subst c43
         have H1 : (quoinref04_Read.j3 kj35 a1 t668 t669 a0 0 0 0 x662004_35) = some (r1, r2, r3, r4, r5, r6) := by rw [if_neg (show ¬ (false = true) by decide)] at H; exact H
         clear H
         have H := H1
         clear H1
         have H' := Aside0.mk H
         clear H
         go_wp2
         go_meet
         case rel => exact ⟨_, (0), H', ⟨by have := HJ5.out; have := HJ33.out; have := HJ35.out; first | omega | exact Nat.le_refl _⟩, ⟨bk BK652.out⟩, ⟨bk BK661.out⟩, ⟨by repeat (first | (with_reducible first | exact HB.out | apply below_alloc | apply pw_below_drewN | apply below_drew1 | refine below_set ?_ GE652.out | refine below_set ?_ GE661.out) | exact HB.out)⟩⟩
       case rest =>
        clear HC41
        try clear c1
        try clear c2
        try clear p2
        try clear c3
        try clear c4
        try clear p6
        try clear c7
        try clear c8
        try clear c12
        try clear c14
        try clear c14b0
        try clear c14b1
        try clear c16
        try clear c18
        try clear c18b0
        try clear c18b1
        try clear c20
        try clear c22
        try clear c22b0
        try clear c22b1
        try clear c24
        try clear c26
        try clear c26b0
        try clear c26b1
        try clear c28
        try clear c30
        try clear c30b0
        try clear c30b1
        try clear c32
        try clear c35
        try clear c35b0
        try clear c35b1
        try clear c37
        try clear c38
        try clear c39
        try clear hcz13_0
        try clear hcz13_1
        try clear hcz13_2
        try clear hcz13_3
        try clear hcz13_4
        try clear hcz17_0
        try clear hcz17_1
        try clear hcz17_2
        try clear hcz17_3
        try clear hcz17_4
        try clear hcz21_0
        try clear hcz21_1
        try clear hcz21_2
        try clear hcz21_3
        try clear hcz21_4
        try clear hcz25_0
        try clear hcz25_1
        try clear hcz25_2
        try clear hcz25_3
        try clear hcz25_4
        try clear hcz29_0
        try clear hcz29_1
        try clear hcz29_2
        try clear hcz29_3
        try clear hcz29_4
        try clear hcz33_0
        try clear hcz33_1
        try clear hcz33_2
        try clear hcz33_3
        try clear hcz33_4
        try clear hcz39_0
        try clear hcz39_1
        try clear hcz39_2
        try clear hcz39_3
        try clear hcz39_4
        try clear hfz13_0
        try clear hfz13_1
        try clear hfz13_2
        try clear hfz13_3
        try clear hfz13_4
        try clear hfz17_0
        try clear hfz17_1
        try clear hfz17_2
        try clear hfz17_3
        try clear hfz17_4
        try clear hfz21_0
        try clear hfz21_1
        try clear hfz21_2
        try clear hfz21_3
        try clear hfz21_4
        try clear hfz25_0
        try clear hfz25_1
        try clear hfz25_2
        try clear hfz25_3
        try clear hfz25_4
        try clear hfz29_0
        try clear hfz29_1
        try clear hfz29_2
        try clear hfz29_3
        try clear hfz29_4
        try clear hfz33_0
        try clear hfz33_1
        try clear hfz33_2
        try clear hfz33_3
        try clear hfz33_4
        try clear hfz39_0
        try clear hfz39_1
        try clear hfz39_2
        try clear hfz39_3
        try clear hfz39_4
        try clear p2
        try clear p6
        obtain ⟨kq, x662001_40, HA, HJ40, BK652, BK661, HB⟩ := hcut
        cases kq with
        | zero => exact absurd HA.out (by simp [quoinref04_Read.j3])
        | succ kj40 =>
         have H := HA.out
         clear HA
         simp only [quoinref04_Read.j3] at H
         have HC47 := Aside0.mk H
         clear H
         go_upto_if 69 with (fail)
         go_cut [] (fun wc => ∃ (kq : Nat) (x662002_46 : Int), Aside0 (quoinref04_Read.j4 kq a1 t669 a0 x662001_40 x662002_46 0 x662004_35 = some (r1, r2, r3, r4, r5, r6)) ∧ Aside0 (kq ≤ kj40) ∧ Aside0 (wc.heap[gb652]? = some (.cells #[.int .u8 0, .int .i64 0, .int .i64 0, .int .i64 0, .int .i64 0] 33 (0, 0))) ∧ Aside0 (wc.heap[gb661]? = some (.cells #[.int .u8 a0, .int .i64 x662001_40, .int .i64 x662002_46, .int .i64 0, .int .i64 x662004_35] 33 (0, 0))) ∧ Aside0 (Below w.heap.size w wc))
         case first =>
          have H := HC47.out
          clear HC47
          by_cases c48 : t668 = true
          ·subst c48
           have H1 : ((quoinref01_Bits.f kj40 a1 15 5).bind fun t671 => (quoinref04_Read.j4 kj40 a1 t669 a0 x662001_40 (wrap64 (t671)) 0 x662004_35)) = some (r1, r2, r3, r4, r5, r6) := by rw [if_pos rfl] at H; exact H
           clear H
           have H := H1
           clear H1
           replace H := Option.bind_eq_some_iff.mp H
           obtain ⟨t671, A490, H⟩ := H
           have A49 := Aside0.mk A490
           clear A490
           have H' := Aside0.mk H
           clear H
           go_wp2_with (first | ((with_reducible refine gate_callee (f := 89) rfl ?_); refine goesL_ (some 71) rfl rfl Tryd.func89 (by kernel_rfl) rfl #[.int .u32 a1, .int .i64 15, .int .i64 5] rfl (by (try simp only [List.map_toArray, List.map_cons, List.map_nil]); first | done | rfl) ?_; (with_reducible refine (quoinref01_Bits.calls kj40 a1 15 5 t671 _ A49.out).mono ?_); rintro e w' ⟨rfl, ⟨nd, rfl⟩⟩; refine ⟨_, rfl, ?_⟩; (try (rw [drewN_self wc]; generalize hq_ : World.drewN wc _ = wc; have n0_ : Aside0 (wc.heap[gb652]? = some (.cells #[.int .u8 0, .int .i64 0, .int .i64 0, .int .i64 0, .int .i64 0] 33 (0, 0))) := ⟨by rw [← hq_]; exact (bk BK652.out)⟩; have n1_ : Aside0 (wc.heap[gb661]? = some (.cells #[.int .u8 a0, .int .i64 x662001_40, .int .i64 0, .int .i64 0, .int .i64 x662004_35] 33 (0, 0))) := ⟨by rw [← hq_]; exact (bk BK661.out)⟩; have n2_ : Aside0 (Below w.heap.size w wc) := ⟨by rw [← hq_]; exact (by repeat (first | (with_reducible first | exact HB.out | apply below_alloc | apply pw_below_drewN | apply below_drew1 | refine below_set ?_ GE652.out | refine below_set ?_ GE661.out) | exact HB.out))⟩; clear BK652 BK661 HB hq_; have BK652 := n0_; have BK661 := n1_; have HB := n2_; clear n0_ n1_ n2_)); have hnb50 := NB661_652.out; have hnc50 := NB652_661.out; obtain ⟨hcz51_0, hcz51_1, hcz51_2, hcz51_3, hcz51_4, hfz51_0, hfz51_1, hfz51_2, hfz51_3, hfz51_4⟩ := cells5 BK661.out))
           go_meet
           case rel => exact ⟨_, (wrap64 (t671)), H', ⟨by have := HJ5.out; have := HJ33.out; have := HJ35.out; have := HJ40.out; first | omega | exact Nat.le_refl _⟩, ⟨by (with_reducible repeat (first | refine blk_drewN ?_ _ | refine blk_drew ?_ | refine blk_alloc ?_ _)); refine blk_far ?_ NB652_661.out _; (with_reducible repeat (first | refine blk_drewN ?_ _ | refine blk_drew ?_ | refine blk_alloc ?_ _)); exact BK652.out⟩, ⟨by (with_reducible repeat (first | refine blk_drewN ?_ _ | refine blk_drew ?_ | refine blk_alloc ?_ _)); refine blk_put (cs := #[.int .u8 a0, .int .i64 x662001_40, .int .i64 0, .int .i64 0, .int .i64 x662004_35]) ?_ 2 _ rfl; (with_reducible repeat (first | refine blk_drewN ?_ _ | refine blk_drew ?_ | refine blk_alloc ?_ _)); exact BK661.out⟩, ⟨by repeat (first | (with_reducible first | exact HB.out | apply below_alloc | apply pw_below_drewN | apply below_drew1 | refine below_set ?_ GE652.out | refine below_set ?_ GE661.out) | exact HB.out)⟩⟩
          ·replace c48 := Bool.eq_false_iff.mpr c48
           subst c48
           have H1 : (quoinref04_Read.j4 kj40 a1 t669 a0 x662001_40 0 0 x662004_35) = some (r1, r2, r3, r4, r5, r6) := by rw [if_neg (show ¬ (false = true) by decide)] at H; exact H
           clear H
           have H := H1
           clear H1
           have H' := Aside0.mk H
           clear H
           go_wp2
           go_meet
           case rel => exact ⟨_, (0), H', ⟨by have := HJ5.out; have := HJ33.out; have := HJ35.out; have := HJ40.out; first | omega | exact Nat.le_refl _⟩, ⟨bk BK652.out⟩, ⟨bk BK661.out⟩, ⟨by repeat (first | (with_reducible first | exact HB.out | apply below_alloc | apply pw_below_drewN | apply below_drew1 | refine below_set ?_ GE652.out | refine below_set ?_ GE661.out) | exact HB.out)⟩⟩
         case rest =>
          clear HC47
          try clear c1
          try clear c2
          try clear p2
          try clear c3
          try clear c4
          try clear p6
          try clear c7
          try clear c8
          try clear c12
          try clear c14
          try clear c14b0
          try clear c14b1
          try clear c16
          try clear c18
          try clear c18b0
          try clear c18b1
          try clear c20
          try clear c22
          try clear c22b0
          try clear c22b1
          try clear c24
          try clear c26
          try clear c26b0
          try clear c26b1
          try clear c28
          try clear c30
          try clear c30b0
          try clear c30b1
          try clear c32
          try clear c35
          try clear c35b0
          try clear c35b1
          try clear c37
          try clear c38
          try clear c39
          try clear c43
          try clear c45
          try clear hcz13_0
          try clear hcz13_1
          try clear hcz13_2
          try clear hcz13_3
          try clear hcz13_4
          try clear hcz17_0
          try clear hcz17_1
          try clear hcz17_2
          try clear hcz17_3
          try clear hcz17_4
          try clear hcz21_0
          try clear hcz21_1
          try clear hcz21_2
          try clear hcz21_3
          try clear hcz21_4
          try clear hcz25_0
          try clear hcz25_1
          try clear hcz25_2
          try clear hcz25_3
          try clear hcz25_4
          try clear hcz29_0
          try clear hcz29_1
          try clear hcz29_2
          try clear hcz29_3
          try clear hcz29_4
          try clear hcz33_0
          try clear hcz33_1
          try clear hcz33_2
          try clear hcz33_3
          try clear hcz33_4
          try clear hcz39_0
          try clear hcz39_1
          try clear hcz39_2
          try clear hcz39_3
          try clear hcz39_4
          try clear hcz46_0
          try clear hcz46_1
          try clear hcz46_2
          try clear hcz46_3
          try clear hcz46_4
          try clear hfz13_0
          try clear hfz13_1
          try clear hfz13_2
          try clear hfz13_3
          try clear hfz13_4
          try clear hfz17_0
          try clear hfz17_1
          try clear hfz17_2
          try clear hfz17_3
          try clear hfz17_4
          try clear hfz21_0
          try clear hfz21_1
          try clear hfz21_2
          try clear hfz21_3
          try clear hfz21_4
          try clear hfz25_0
          try clear hfz25_1
          try clear hfz25_2
          try clear hfz25_3
          try clear hfz25_4
          try clear hfz29_0
          try clear hfz29_1
          try clear hfz29_2
          try clear hfz29_3
          try clear hfz29_4
          try clear hfz33_0
          try clear hfz33_1
          try clear hfz33_2
          try clear hfz33_3
          try clear hfz33_4
          try clear hfz39_0
          try clear hfz39_1
          try clear hfz39_2
          try clear hfz39_3
          try clear hfz39_4
          try clear hfz46_0
          try clear hfz46_1
          try clear hfz46_2
          try clear hfz46_3
          try clear hfz46_4
          try clear p2
          try clear p6
          obtain ⟨kq, x662002_46, HA, HJ46, BK652, BK661, HB⟩ := hcut
          cases kq with
          | zero => exact absurd HA.out (by simp [quoinref04_Read.j4])
          | succ kj46 =>
           have H := HA.out
           clear HA
           simp only [quoinref04_Read.j4] at H
           by_cases c52 : t669 = true
           ·subst c52
            have H1 : ((quoinref01_Bits.f kj46 a1 20 5).bind fun t672 => ((quoinref02_May.f kj46 a0 x662001_40 x662002_46 (wrap64 (t672)) x662004_35).bind fun t673 => (if t673 = true then ((quoinref03_Coded.f kj46 a0 x662001_40 x662002_46 (wrap64 (t672)) x662004_35).bind fun t674 => (some (a0, x662001_40, x662002_46, wrap64 (t672), x662004_35, (t674 == a1)))) else (some (a0, x662001_40, x662002_46, wrap64 (t672), x662004_35, false))))) = some (r1, r2, r3, r4, r5, r6) := by rw [if_pos rfl] at H; exact H
            clear H
            have H := H1
            clear H1
            replace H := Option.bind_eq_some_iff.mp H
            obtain ⟨t672, A530, H⟩ := H
            have A53 := Aside0.mk A530
            clear A530
            replace H := Option.bind_eq_some_iff.mp H
            obtain ⟨t673, A540, H⟩ := H
            have A54 := Aside0.mk A540
            clear A540
            by_cases c55 : t673 = true
            ·subst c55
             have H1 : ((quoinref03_Coded.f kj46 a0 x662001_40 x662002_46 (wrap64 (t672)) x662004_35).bind fun t674 => (some (a0, x662001_40, x662002_46, wrap64 (t672), x662004_35, (t674 == a1)))) = some (r1, r2, r3, r4, r5, r6) := by rw [if_pos rfl] at H; exact H
             clear H
             have H := H1
             clear H1
             replace H := Option.bind_eq_some_iff.mp H
             obtain ⟨t674, A560, H⟩ := H
             replace H : (some (a0, x662001_40, x662002_46, wrap64 (t672), x662004_35, (t674 == a1))) = some (r1, r2, r3, r4, r5, r6) := H
             have A56 := Aside0.mk A560
             clear A560
             simp only [Option.some.injEq, Prod.mk.injEq] at H
             obtain ⟨rfl, rfl, rfl, rfl, rfl, rfl⟩ := H
             try go_wp2_with (first | ((with_reducible refine gate_callee (f := 89) rfl ?_); refine goesL_ (some 76) rfl rfl Tryd.func89 (by kernel_rfl) rfl #[.int .u32 a1, .int .i64 20, .int .i64 5] rfl (by (try simp only [List.map_toArray, List.map_cons, List.map_nil]); first | done | rfl) ?_; (with_reducible refine (quoinref01_Bits.calls kj46 a1 20 5 t672 _ A53.out).mono ?_); rintro e w' ⟨rfl, ⟨nd, rfl⟩⟩; refine ⟨_, rfl, ?_⟩; (try (rw [drewN_self wc]; generalize hq_ : World.drewN wc _ = wc; have n0_ : Aside0 (wc.heap[gb652]? = some (.cells #[.int .u8 0, .int .i64 0, .int .i64 0, .int .i64 0, .int .i64 0] 33 (0, 0))) := ⟨by rw [← hq_]; exact (bk BK652.out)⟩; have n1_ : Aside0 (wc.heap[gb661]? = some (.cells #[.int .u8 a0, .int .i64 x662001_40, .int .i64 x662002_46, .int .i64 0, .int .i64 x662004_35] 33 (0, 0))) := ⟨by rw [← hq_]; exact (bk BK661.out)⟩; have n2_ : Aside0 (Below w.heap.size w wc) := ⟨by rw [← hq_]; exact (by repeat (first | (with_reducible first | exact HB.out | apply below_alloc | apply pw_below_drewN | apply below_drew1 | refine below_set ?_ GE652.out | refine below_set ?_ GE661.out) | exact HB.out))⟩; clear BK652 BK661 HB hq_; have BK652 := n0_; have BK661 := n1_; have HB := n2_; clear n0_ n1_ n2_)); have hnb57 := NB661_652.out; have hnc57 := NB652_661.out; obtain ⟨hcz58_0, hcz58_1, hcz58_2, hcz58_3, hcz58_4, hfz58_0, hfz58_1, hfz58_2, hfz58_3, hfz58_4⟩ := cells5 BK661.out))
             have n0_ : Aside0 ((wc.setCell ⟨gb661, 3, none⟩ (.int .i64 (wrap64 (t672)))).heap[gb652]? = some (.cells #[.int .u8 0, .int .i64 0, .int .i64 0, .int .i64 0, .int .i64 0] 33 (0, 0))) := ⟨by (with_reducible repeat (first | refine blk_drewN ?_ _ | refine blk_drew ?_ | refine blk_alloc ?_ _)); refine blk_far ?_ NB652_661.out _; (with_reducible repeat (first | refine blk_drewN ?_ _ | refine blk_drew ?_ | refine blk_alloc ?_ _)); exact BK652.out⟩
             have n1_ : Aside0 ((wc.setCell ⟨gb661, 3, none⟩ (.int .i64 (wrap64 (t672)))).heap[gb661]? = some (.cells #[.int .u8 a0, .int .i64 x662001_40, .int .i64 x662002_46, .int .i64 (wrap64 (t672)), .int .i64 x662004_35] 33 (0, 0))) := ⟨by (with_reducible repeat (first | refine blk_drewN ?_ _ | refine blk_drew ?_ | refine blk_alloc ?_ _)); refine blk_put (cs := #[.int .u8 a0, .int .i64 x662001_40, .int .i64 x662002_46, .int .i64 0, .int .i64 x662004_35]) ?_ 3 _ rfl; (with_reducible repeat (first | refine blk_drewN ?_ _ | refine blk_drew ?_ | refine blk_alloc ?_ _)); exact BK661.out⟩
             have n2_ : Aside0 (Below w.heap.size w (wc.setCell ⟨gb661, 3, none⟩ (.int .i64 (wrap64 (t672))))) := ⟨by repeat (first | (with_reducible first | exact HB.out | apply below_alloc | apply pw_below_drewN | apply below_drew1 | refine below_set ?_ GE652.out | refine below_set ?_ GE661.out) | exact HB.out)⟩
             (try clear BK652)
             (try clear BK661)
             (try clear HB)
             generalize (wc.setCell ⟨gb661, 3, none⟩ (.int .i64 (wrap64 (t672)))) = w59 at n0_ n1_ n2_ ⊢
             have BK652 := n0_
             have BK661 := n1_
             have HB := n2_
             clear n0_ n1_ n2_
             have n0_ := Aside0.mk (blk_drew BK652.out)
             have n1_ := Aside0.mk (blk_drew BK661.out)
             have n2_ := Aside0.mk (below_drew1 HB.out)
             clear BK652
             clear BK661
             clear HB
             have BK652 := n0_
             have BK661 := n1_
             have HB := n2_
             clear n0_ n1_ n2_
             refine start_ (n := 11) (S := fun w' => w'.cell? ⟨gb661, 0, none⟩ = some (.int .u8 a0) ∧ w'.cell? ⟨gb661, 1, none⟩ = some (.int .i64 x662001_40) ∧ w'.cell? ⟨gb661, 2, none⟩ = some (.int .i64 x662002_46) ∧ w'.cell? ⟨gb661, 3, none⟩ = some (.int .i64 (wrap64 (t672))) ∧ w'.cell? ⟨gb661, 4, none⟩ = some (.int .i64 x662004_35)) (ds := []) #[false, false, false, false, false, false, false, false, false, false, false] (by kernel_rfl) rfl rfl ⟨(blk_cell BK661.out 0).trans rfl, (blk_cell BK661.out 1).trans rfl, (blk_cell BK661.out 2).trans rfl, (blk_cell BK661.out 3).trans rfl, (blk_cell BK661.out 4).trans rfl⟩ (fun hHeld => ?_); refine with_tabW quoinref04_Read.tab21 quoinref04_Read.bits21 (fun HT_ HW_ => ?_)
             generalize w59.drew = w60 at BK652 BK661 HB hHeld ⊢
             refine take_ (i := 0) (N := some 79) (v := ?_) (a' := ?_) #[true, false, false, false, false, false, false, false, false, false, false] rfl rfl (take_ofW HT_.out HW_.out (by kernel_rfl)) (fun _ _ _ h => h) (Or.inl ⟨by rfl, ?_⟩) hHeld ?_ ?_
             rotate_left
             ·rintro w' ⟨s0, s1, s2, s3, s4⟩
              go_simp
              with_reducible rfl
             rotate_left
             ·simp only [Act.put, List.setIfInBounds_toArray, List.set_cons_zero, List.set_cons_succ, i64_w, i32_w]
              rfl
             refine take_ (i := 1) (N := some 80) (v := ?_) (a' := ?_) #[true, true, false, false, false, false, false, false, false, false, false] rfl rfl (take_ofW HT_.out HW_.out (by kernel_rfl)) (fun _ _ _ h => h) (Or.inl ⟨by rfl, ?_⟩) hHeld ?_ ?_
             rotate_left
             ·rintro w' ⟨s0, s1, s2, s3, s4⟩
              go_simp
              with_reducible rfl
             rotate_left
             ·simp only [Act.put, List.setIfInBounds_toArray, List.set_cons_zero, List.set_cons_succ, i64_w, i32_w]
              rfl
             refine one_ (i := 2) (N := some 81) #[true, true, true, false, false, false, false, false, false, false, false] rfl rfl (one_of HT_.out (by kernel_rfl)) (by decide) (fun K hK => ?_)
             refine goes_ Tryd.func65 (by kernel_rfl) rfl #[.agg #[.int .u8 a0, .int .i64 x662001_40, .int .i64 x662002_46, .int .i64 (wrap64 (t672)), .int .i64 x662004_35]] (by rfl) rfl rfl (by (try simp only [List.map_toArray, List.map_cons, List.map_nil]); first | done | rfl) ?_
             with_reducible refine (quoinref02_May.calls kj46 a0 x662001_40 x662002_46 (wrap64 (t672)) x662004_35 true _ A54.out).mono ?_
             rintro e w61 ⟨rfl, hb⟩
             refine ⟨_, rfl, ?_⟩
             have n0_ := Aside0.mk (blk_below (g := gb652) (o := .cells #[.int .u8 0, .int .i64 0, .int .i64 0, .int .i64 0, .int .i64 0] 33 (0, 0)) (bk BK652.out) hb)
             have n1_ := Aside0.mk (blk_below (g := gb661) (o := .cells #[.int .u8 a0, .int .i64 x662001_40, .int .i64 x662002_46, .int .i64 (wrap64 (t672)), .int .i64 x662004_35] 33 (0, 0)) (bk BK661.out) hb)
             have n2_ := Aside0.mk (below_step (by repeat (first | (with_reducible first | exact HB.out | apply below_alloc | apply pw_below_drewN | apply below_drew1 | refine below_set ?_ GE652.out | refine below_set ?_ GE661.out) | exact HB.out)) hb)
             clear BK652
             clear BK661
             clear HB
             have BK652 := n0_
             have BK661 := n1_
             have HB := n2_
             clear n0_ n1_ n2_
             (try clear hb)
             (try clear hb2)
             (try clear hk)
             (try clear hi)
             refine hK.out _ _ ⟨(blk_cell BK661.out 0).trans rfl, (blk_cell BK661.out 1).trans rfl, (blk_cell BK661.out 2).trans rfl, (blk_cell BK661.out 3).trans rfl, (blk_cell BK661.out 4).trans rfl⟩ (fun hHeld => ?_)
             clear hK K
             refine norm_ (a' := ?_) ?_ ?_
             rotate_left
             ·show Act.put _ (some 81) _ = _
              simp only [Act.put, List.setIfInBounds_toArray, List.set_cons_zero, List.set_cons_succ, i64_w, i32_w]
              rfl
             refine pure_ (i := 3) (N := some 82) (v := ?_) (a' := ?_) #[true, true, true, true, false, false, false, false, false, false, false] rfl rfl (any_of HT_.out (by kernel_rfl)) (fun _ _ _ h => h) (Or.inl ⟨by rfl, ?_⟩) ?_ ?_
             rotate_left
             ·intro w'
              go_simp
              with_reducible rfl
             rotate_left
             ·simp only [Act.put, List.setIfInBounds_toArray, List.set_cons_zero, List.set_cons_succ, i64_w, i32_w]
              rfl
             refine pure_ (i := 6) (N := some 85) (v := ?_) (a' := ?_) #[true, true, true, true, false, false, true, false, false, false, false] rfl rfl (any_of HT_.out (by kernel_rfl)) (fun _ _ _ h => h) (Or.inl ⟨by rfl, ?_⟩) ?_ ?_
             rotate_left
             ·intro w'
              go_simp
              with_reducible rfl
             rotate_left
             ·simp only [Act.put, List.setIfInBounds_toArray, List.set_cons_zero, List.set_cons_succ, i64_w, i32_w]
              rfl
             refine take_ (i := 4) (N := some 83) (v := ?_) (a' := ?_) #[true, true, true, true, true, false, true, false, false, false, false] rfl rfl (take_ofW HT_.out HW_.out (by kernel_rfl)) (fun _ _ _ h => h) (Or.inl ⟨by rfl, ?_⟩) hHeld ?_ ?_
             rotate_left
             ·rintro w' ⟨s0, s1, s2, s3, s4⟩
              go_simp
              with_reducible rfl
             rotate_left
             ·simp only [Act.put, List.setIfInBounds_toArray, List.set_cons_zero, List.set_cons_succ, i64_w, i32_w]
              rfl
             refine one_ (i := 5) (N := some 84) #[true, true, true, true, true, true, true, false, false, false, false] rfl rfl (one_of HT_.out (by kernel_rfl)) (by decide) (fun K hK => ?_)
             refine goes_ Tryd.func67 (by kernel_rfl) rfl #[.agg #[.int .u8 a0, .int .i64 x662001_40, .int .i64 x662002_46, .int .i64 (wrap64 (t672)), .int .i64 x662004_35]] (by rfl) rfl rfl (by (try simp only [List.map_toArray, List.map_cons, List.map_nil]); first | done | rfl) ?_
             with_reducible refine (quoinref03_Coded.calls kj46 a0 x662001_40 x662002_46 (wrap64 (t672)) x662004_35 t674 _ A56.out).mono ?_
             rintro e w62 ⟨rfl, hb⟩
             refine ⟨_, rfl, ?_⟩
             have n0_ := Aside0.mk (blk_below (g := gb652) (o := .cells #[.int .u8 0, .int .i64 0, .int .i64 0, .int .i64 0, .int .i64 0] 33 (0, 0)) (bk BK652.out) hb)
             have n1_ := Aside0.mk (blk_below (g := gb661) (o := .cells #[.int .u8 a0, .int .i64 x662001_40, .int .i64 x662002_46, .int .i64 (wrap64 (t672)), .int .i64 x662004_35] 33 (0, 0)) (bk BK661.out) hb)
             have n2_ := Aside0.mk (below_step (by repeat (first | (with_reducible first | exact HB.out | apply below_alloc | apply pw_below_drewN | apply below_drew1 | refine below_set ?_ GE652.out | refine below_set ?_ GE661.out) | exact HB.out)) hb)
             clear BK652
             clear BK661
             clear HB
             have BK652 := n0_
             have BK661 := n1_
             have HB := n2_
             clear n0_ n1_ n2_
             (try clear hb)
             (try clear hb2)
             (try clear hk)
             (try clear hi)
             refine hK.out _ _ ⟨(blk_cell BK661.out 0).trans rfl, (blk_cell BK661.out 1).trans rfl, (blk_cell BK661.out 2).trans rfl, (blk_cell BK661.out 3).trans rfl, (blk_cell BK661.out 4).trans rfl⟩ (fun hHeld => ?_)
             clear hK K
             refine norm_ (a' := ?_) ?_ ?_
             rotate_left
             ·show Act.put _ (some 84) _ = _
              simp only [Act.put, List.setIfInBounds_toArray, List.set_cons_zero, List.set_cons_succ, i64_w, i32_w]
              rfl
             refine pure_ (i := 7) (N := some 86) (v := ?_) (a' := ?_) #[true, true, true, true, true, true, true, true, false, false, false] rfl rfl (any_of HT_.out (by kernel_rfl)) (fun _ _ _ h => h) (Or.inl ⟨by rfl, ?_⟩) ?_ ?_
             rotate_left
             ·intro w'
              go_simp
              with_reducible rfl
             rotate_left
             ·simp only [Act.put, List.setIfInBounds_toArray, List.set_cons_zero, List.set_cons_succ, i64_w, i32_w]
              rfl
             refine pure_ (i := 8) (N := some 87) (v := ?_) (a' := ?_) #[true, true, true, true, true, true, true, true, true, false, false] rfl rfl (any_of HT_.out (by kernel_rfl)) (fun _ _ _ h => h) (Or.inl ⟨by rfl, ?_⟩) ?_ ?_
             rotate_left
             ·intro w'
              go_simp
              with_reducible rfl
             rotate_left
             ·simp only [Act.put, List.setIfInBounds_toArray, List.set_cons_zero, List.set_cons_succ, i64_w, i32_w]
              rfl
             refine one_ (i := 9) (N := none) #[true, true, true, true, true, true, true, true, true, true, false] rfl rfl (one_of HT_.out (by kernel_rfl)) (by decide) (fun K hK => ?_)
             have hs63 : w62.cell? ⟨gb652, 0, none⟩ = some (.int .u8 0) := (blk_cell BK652.out 0).trans rfl
             have hfs63 := blk_frozen BK652.out 0
             have hns63_1 := NB661_652.out
             have hms63_1 := NB652_661.out
             have hs64 : w62.cell? ⟨gb652, 1, none⟩ = some (.int .i64 0) := (blk_cell BK652.out 1).trans rfl
             have hfs64 := blk_frozen BK652.out 1
             have hns64_1 := NB661_652.out
             have hms64_1 := NB652_661.out
             have hs65 : w62.cell? ⟨gb652, 2, none⟩ = some (.int .i64 0) := (blk_cell BK652.out 2).trans rfl
             have hfs65 := blk_frozen BK652.out 2
             have hns65_1 := NB661_652.out
             have hms65_1 := NB652_661.out
             have hs66 : w62.cell? ⟨gb652, 3, none⟩ = some (.int .i64 0) := (blk_cell BK652.out 3).trans rfl
             have hfs66 := blk_frozen BK652.out 3
             have hns66_1 := NB661_652.out
             have hms66_1 := NB652_661.out
             have hs67 : w62.cell? ⟨gb652, 4, none⟩ = some (.int .i64 0) := (blk_cell BK652.out 4).trans rfl
             have hfs67 := blk_frozen BK652.out 4
             have hns67_1 := NB661_652.out
             have hms67_1 := NB652_661.out
             refine skip_ (w1 := ?_) (by rfl) rfl ?_ ?_
             rotate_left
             ·go_simp
              rfl
             refine hK.out _ _ ⟨((cell_far (p := ⟨gb652, _, none⟩) NB661_652.out _).trans (((cell_far (p := ⟨gb652, _, none⟩) NB661_652.out _).trans (((cell_far (p := ⟨gb652, _, none⟩) NB661_652.out _).trans (((cell_far (p := ⟨gb652, _, none⟩) NB661_652.out _).trans (((cell_far (p := ⟨gb652, _, none⟩) NB661_652.out _).trans (hHeld.1)))))))))), ((cell_far (p := ⟨gb652, _, none⟩) NB661_652.out _).trans (((cell_far (p := ⟨gb652, _, none⟩) NB661_652.out _).trans (((cell_far (p := ⟨gb652, _, none⟩) NB661_652.out _).trans (((cell_far (p := ⟨gb652, _, none⟩) NB661_652.out _).trans (((cell_far (p := ⟨gb652, _, none⟩) NB661_652.out _).trans (hHeld.2.1)))))))))), ((cell_far (p := ⟨gb652, _, none⟩) NB661_652.out _).trans (((cell_far (p := ⟨gb652, _, none⟩) NB661_652.out _).trans (((cell_far (p := ⟨gb652, _, none⟩) NB661_652.out _).trans (((cell_far (p := ⟨gb652, _, none⟩) NB661_652.out _).trans (((cell_far (p := ⟨gb652, _, none⟩) NB661_652.out _).trans (hHeld.2.2.1)))))))))), ((cell_far (p := ⟨gb652, _, none⟩) NB661_652.out _).trans (((cell_far (p := ⟨gb652, _, none⟩) NB661_652.out _).trans (((cell_far (p := ⟨gb652, _, none⟩) NB661_652.out _).trans (((cell_far (p := ⟨gb652, _, none⟩) NB661_652.out _).trans (((cell_far (p := ⟨gb652, _, none⟩) NB661_652.out _).trans (hHeld.2.2.2.1)))))))))), ((cell_far (p := ⟨gb652, _, none⟩) NB661_652.out _).trans (((cell_far (p := ⟨gb652, _, none⟩) NB661_652.out _).trans (((cell_far (p := ⟨gb652, _, none⟩) NB661_652.out _).trans (((cell_far (p := ⟨gb652, _, none⟩) NB661_652.out _).trans (((cell_far (p := ⟨gb652, _, none⟩) NB661_652.out _).trans (hHeld.2.2.2.2))))))))))⟩ (fun hHeld => ?_)
             clear hK K
             refine pure_ (i := 10) (N := some 5) (v := ?_) (a' := ?_) #[true, true, true, true, true, true, true, true, true, true, true] rfl rfl (any_of HT_.out (by kernel_rfl)) (fun _ _ _ h => h) (Or.inl ⟨by rfl, ?_⟩) ?_ ?_
             rotate_left
             ·intro w'
              go_simp
              with_reducible rfl
             rotate_left
             ·simp only [Act.put, List.setIfInBounds_toArray, List.set_cons_zero, List.set_cons_succ, i64_w, i32_w]
              rfl
             refine done_ (done_of HT_.out (by kernel_rfl)) ?_
             try go_wp2
             refine bodyPost_ret (results_ct rfl _ _ gb652 33 #[.int .u8 a0, .int .i64 x662001_40, .int .i64 x662002_46, .int .i64 (wrap64 (t672)), .int .i64 x662004_35] (0, 0) _ rfl (by (with_reducible repeat (first | refine blk_drewN ?_ _ | refine blk_drew ?_ | refine blk_alloc ?_ _)); refine blk_put (cs := #[.int .u8 a0, .int .i64 x662001_40, .int .i64 x662002_46, .int .i64 (wrap64 (t672)), .int .i64 0]) ?_ 4 _ rfl; (with_reducible repeat (first | refine blk_drewN ?_ _ | refine blk_drew ?_ | refine blk_alloc ?_ _)); refine blk_put (cs := #[.int .u8 a0, .int .i64 x662001_40, .int .i64 x662002_46, .int .i64 0, .int .i64 0]) ?_ 3 _ rfl; (with_reducible repeat (first | refine blk_drewN ?_ _ | refine blk_drew ?_ | refine blk_alloc ?_ _)); refine blk_put (cs := #[.int .u8 a0, .int .i64 x662001_40, .int .i64 0, .int .i64 0, .int .i64 0]) ?_ 2 _ rfl; (with_reducible repeat (first | refine blk_drewN ?_ _ | refine blk_drew ?_ | refine blk_alloc ?_ _)); refine blk_put (cs := #[.int .u8 a0, .int .i64 0, .int .i64 0, .int .i64 0, .int .i64 0]) ?_ 1 _ rfl; (with_reducible repeat (first | refine blk_drewN ?_ _ | refine blk_drew ?_ | refine blk_alloc ?_ _)); refine blk_put (cs := #[.int .u8 0, .int .i64 0, .int .i64 0, .int .i64 0, .int .i64 0]) ?_ 0 _ rfl; (with_reducible repeat (first | refine blk_drewN ?_ _ | refine blk_drew ?_ | refine blk_alloc ?_ _)); exact BK652.out) Tryd.underlying33 rfl (by kernel_rfl)) rfl ?_
             exact ⟨by first | rfl | (simp <;> rfl) | (simp [*] <;> rfl), by repeat (first | (with_reducible first | exact HB.out | apply below_alloc | apply pw_below_drewN | apply below_drew1 | refine below_set ?_ GE652.out | refine below_set ?_ GE661.out) | exact HB.out)⟩
            ·replace c55 := Bool.eq_false_iff.mpr c55
             subst c55
             have H1 : (some (a0, x662001_40, x662002_46, wrap64 (t672), x662004_35, false)) = some (r1, r2, r3, r4, r5, r6) := by rw [if_neg (show ¬ (false = true) by decide)] at H; exact H
             clear H
             have H := H1
             clear H1
             simp only [Option.some.injEq, Prod.mk.injEq] at H
             obtain ⟨rfl, rfl, rfl, rfl, rfl, rfl⟩ := H
             try go_wp2_with (first | ((with_reducible refine gate_callee (f := 89) rfl ?_); refine goesL_ (some 76) rfl rfl Tryd.func89 (by kernel_rfl) rfl #[.int .u32 a1, .int .i64 20, .int .i64 5] rfl (by (try simp only [List.map_toArray, List.map_cons, List.map_nil]); first | done | rfl) ?_; (with_reducible refine (quoinref01_Bits.calls kj46 a1 20 5 t672 _ A53.out).mono ?_); rintro e w' ⟨rfl, ⟨nd, rfl⟩⟩; refine ⟨_, rfl, ?_⟩; (try (rw [drewN_self wc]; generalize hq_ : World.drewN wc _ = wc; have n0_ : Aside0 (wc.heap[gb652]? = some (.cells #[.int .u8 0, .int .i64 0, .int .i64 0, .int .i64 0, .int .i64 0] 33 (0, 0))) := ⟨by rw [← hq_]; exact (bk BK652.out)⟩; have n1_ : Aside0 (wc.heap[gb661]? = some (.cells #[.int .u8 a0, .int .i64 x662001_40, .int .i64 x662002_46, .int .i64 0, .int .i64 x662004_35] 33 (0, 0))) := ⟨by rw [← hq_]; exact (bk BK661.out)⟩; have n2_ : Aside0 (Below w.heap.size w wc) := ⟨by rw [← hq_]; exact (by repeat (first | (with_reducible first | exact HB.out | apply below_alloc | apply pw_below_drewN | apply below_drew1 | refine below_set ?_ GE652.out | refine below_set ?_ GE661.out) | exact HB.out))⟩; clear BK652 BK661 HB hq_; have BK652 := n0_; have BK661 := n1_; have HB := n2_; clear n0_ n1_ n2_)); have hnb68 := NB661_652.out; have hnc68 := NB652_661.out; obtain ⟨hcz69_0, hcz69_1, hcz69_2, hcz69_3, hcz69_4, hfz69_0, hfz69_1, hfz69_2, hfz69_3, hfz69_4⟩ := cells5 BK661.out))
             have n0_ : Aside0 ((wc.setCell ⟨gb661, 3, none⟩ (.int .i64 (wrap64 (t672)))).heap[gb652]? = some (.cells #[.int .u8 0, .int .i64 0, .int .i64 0, .int .i64 0, .int .i64 0] 33 (0, 0))) := ⟨by (with_reducible repeat (first | refine blk_drewN ?_ _ | refine blk_drew ?_ | refine blk_alloc ?_ _)); refine blk_far ?_ NB652_661.out _; (with_reducible repeat (first | refine blk_drewN ?_ _ | refine blk_drew ?_ | refine blk_alloc ?_ _)); exact BK652.out⟩
             have n1_ : Aside0 ((wc.setCell ⟨gb661, 3, none⟩ (.int .i64 (wrap64 (t672)))).heap[gb661]? = some (.cells #[.int .u8 a0, .int .i64 x662001_40, .int .i64 x662002_46, .int .i64 (wrap64 (t672)), .int .i64 x662004_35] 33 (0, 0))) := ⟨by (with_reducible repeat (first | refine blk_drewN ?_ _ | refine blk_drew ?_ | refine blk_alloc ?_ _)); refine blk_put (cs := #[.int .u8 a0, .int .i64 x662001_40, .int .i64 x662002_46, .int .i64 0, .int .i64 x662004_35]) ?_ 3 _ rfl; (with_reducible repeat (first | refine blk_drewN ?_ _ | refine blk_drew ?_ | refine blk_alloc ?_ _)); exact BK661.out⟩
             have n2_ : Aside0 (Below w.heap.size w (wc.setCell ⟨gb661, 3, none⟩ (.int .i64 (wrap64 (t672))))) := ⟨by repeat (first | (with_reducible first | exact HB.out | apply below_alloc | apply pw_below_drewN | apply below_drew1 | refine below_set ?_ GE652.out | refine below_set ?_ GE661.out) | exact HB.out)⟩
             (try clear BK652)
             (try clear BK661)
             (try clear HB)
             generalize (wc.setCell ⟨gb661, 3, none⟩ (.int .i64 (wrap64 (t672)))) = w70 at n0_ n1_ n2_ ⊢
             have BK652 := n0_
             have BK661 := n1_
             have HB := n2_
             clear n0_ n1_ n2_
             have n0_ := Aside0.mk (blk_drew BK652.out)
             have n1_ := Aside0.mk (blk_drew BK661.out)
             have n2_ := Aside0.mk (below_drew1 HB.out)
             clear BK652
             clear BK661
             clear HB
             have BK652 := n0_
             have BK661 := n1_
             have HB := n2_
             clear n0_ n1_ n2_
             refine start_ (n := 11) (S := fun w' => w'.cell? ⟨gb661, 0, none⟩ = some (.int .u8 a0) ∧ w'.cell? ⟨gb661, 1, none⟩ = some (.int .i64 x662001_40) ∧ w'.cell? ⟨gb661, 2, none⟩ = some (.int .i64 x662002_46) ∧ w'.cell? ⟨gb661, 3, none⟩ = some (.int .i64 (wrap64 (t672))) ∧ w'.cell? ⟨gb661, 4, none⟩ = some (.int .i64 x662004_35)) (ds := []) #[false, false, false, false, false, false, false, false, false, false, false] (by kernel_rfl) rfl rfl ⟨(blk_cell BK661.out 0).trans rfl, (blk_cell BK661.out 1).trans rfl, (blk_cell BK661.out 2).trans rfl, (blk_cell BK661.out 3).trans rfl, (blk_cell BK661.out 4).trans rfl⟩ (fun hHeld => ?_); refine with_tabW quoinref04_Read.tab21 quoinref04_Read.bits21 (fun HT_ HW_ => ?_)
             generalize w70.drew = w71 at BK652 BK661 HB hHeld ⊢
             refine take_ (i := 0) (N := some 79) (v := ?_) (a' := ?_) #[true, false, false, false, false, false, false, false, false, false, false] rfl rfl (take_ofW HT_.out HW_.out (by kernel_rfl)) (fun _ _ _ h => h) (Or.inl ⟨by rfl, ?_⟩) hHeld ?_ ?_
             rotate_left
             ·rintro w' ⟨s0, s1, s2, s3, s4⟩
              go_simp
              with_reducible rfl
             rotate_left
             ·simp only [Act.put, List.setIfInBounds_toArray, List.set_cons_zero, List.set_cons_succ, i64_w, i32_w]
              rfl
             refine take_ (i := 1) (N := some 80) (v := ?_) (a' := ?_) #[true, true, false, false, false, false, false, false, false, false, false] rfl rfl (take_ofW HT_.out HW_.out (by kernel_rfl)) (fun _ _ _ h => h) (Or.inl ⟨by rfl, ?_⟩) hHeld ?_ ?_
             rotate_left
             ·rintro w' ⟨s0, s1, s2, s3, s4⟩
              go_simp
              with_reducible rfl
             rotate_left
             ·simp only [Act.put, List.setIfInBounds_toArray, List.set_cons_zero, List.set_cons_succ, i64_w, i32_w]
              rfl
             refine one_ (i := 2) (N := some 81) #[true, true, true, false, false, false, false, false, false, false, false] rfl rfl (one_of HT_.out (by kernel_rfl)) (by decide) (fun K hK => ?_)
             refine goes_ Tryd.func65 (by kernel_rfl) rfl #[.agg #[.int .u8 a0, .int .i64 x662001_40, .int .i64 x662002_46, .int .i64 (wrap64 (t672)), .int .i64 x662004_35]] (by rfl) rfl rfl (by (try simp only [List.map_toArray, List.map_cons, List.map_nil]); first | done | rfl) ?_
             with_reducible refine (quoinref02_May.calls kj46 a0 x662001_40 x662002_46 (wrap64 (t672)) x662004_35 false _ A54.out).mono ?_
             rintro e w72 ⟨rfl, hb⟩
             refine ⟨_, rfl, ?_⟩
             have n0_ := Aside0.mk (blk_below (g := gb652) (o := .cells #[.int .u8 0, .int .i64 0, .int .i64 0, .int .i64 0, .int .i64 0] 33 (0, 0)) (bk BK652.out) hb)
             have n1_ := Aside0.mk (blk_below (g := gb661) (o := .cells #[.int .u8 a0, .int .i64 x662001_40, .int .i64 x662002_46, .int .i64 (wrap64 (t672)), .int .i64 x662004_35] 33 (0, 0)) (bk BK661.out) hb)
             have n2_ := Aside0.mk (below_step (by repeat (first | (with_reducible first | exact HB.out | apply below_alloc | apply pw_below_drewN | apply below_drew1 | refine below_set ?_ GE652.out | refine below_set ?_ GE661.out) | exact HB.out)) hb)
             clear BK652
             clear BK661
             clear HB
             have BK652 := n0_
             have BK661 := n1_
             have HB := n2_
             clear n0_ n1_ n2_
             (try clear hb)
             (try clear hb2)
             (try clear hk)
             (try clear hi)
             refine hK.out _ _ ⟨(blk_cell BK661.out 0).trans rfl, (blk_cell BK661.out 1).trans rfl, (blk_cell BK661.out 2).trans rfl, (blk_cell BK661.out 3).trans rfl, (blk_cell BK661.out 4).trans rfl⟩ (fun hHeld => ?_)
             clear hK K
             refine norm_ (a' := ?_) ?_ ?_
             rotate_left
             ·show Act.put _ (some 81) _ = _
              simp only [Act.put, List.setIfInBounds_toArray, List.set_cons_zero, List.set_cons_succ, i64_w, i32_w]
              rfl
             refine pure_ (i := 3) (N := some 82) (v := ?_) (a' := ?_) #[true, true, true, true, false, false, false, false, false, false, false] rfl rfl (any_of HT_.out (by kernel_rfl)) (fun _ _ _ h => h) (Or.inl ⟨by rfl, ?_⟩) ?_ ?_
             rotate_left
             ·intro w'
              go_simp
              with_reducible rfl
             rotate_left
             ·simp only [Act.put, List.setIfInBounds_toArray, List.set_cons_zero, List.set_cons_succ, i64_w, i32_w]
              rfl
             refine pure_ (i := 4) (N := some 83) (v := undef) (a' := ?_) #[true, true, true, true, true, false, false, false, false, false, false] rfl rfl (any_of HT_.out (by kernel_rfl)) (fun _ _ _ h => h) (Or.inr ⟨by rfl, rfl⟩) ?_ ?_
             rotate_left
             ·simp only [Act.put, List.setIfInBounds_toArray, List.set_cons_zero, List.set_cons_succ, i64_w, i32_w]
              rfl
             refine pure_ (i := 5) (N := some 84) (v := undef) (a' := ?_) #[true, true, true, true, true, true, false, false, false, false, false] rfl rfl (any_of HT_.out (by kernel_rfl)) (fun _ _ _ h => h) (Or.inr ⟨by rfl, rfl⟩) ?_ ?_
             rotate_left
             ·simp only [Act.put, List.setIfInBounds_toArray, List.set_cons_zero, List.set_cons_succ, i64_w, i32_w]
              rfl
             refine pure_ (i := 6) (N := some 85) (v := undef) (a' := ?_) #[true, true, true, true, true, true, true, false, false, false, false] rfl rfl (any_of HT_.out (by kernel_rfl)) (fun _ _ _ h => h) (Or.inr ⟨by rfl, rfl⟩) ?_ ?_
             rotate_left
             ·simp only [Act.put, List.setIfInBounds_toArray, List.set_cons_zero, List.set_cons_succ, i64_w, i32_w]
              rfl
             refine pure_ (i := 7) (N := some 86) (v := undef) (a' := ?_) #[true, true, true, true, true, true, true, true, false, false, false] rfl rfl (any_of HT_.out (by kernel_rfl)) (fun _ _ _ h => h) (Or.inr ⟨by rfl, rfl⟩) ?_ ?_
             rotate_left
             ·simp only [Act.put, List.setIfInBounds_toArray, List.set_cons_zero, List.set_cons_succ, i64_w, i32_w]
              rfl
             refine pure_ (i := 8) (N := some 87) (v := ?_) (a' := ?_) #[true, true, true, true, true, true, true, true, true, false, false] rfl rfl (any_of HT_.out (by kernel_rfl)) (fun _ _ _ h => h) (Or.inl ⟨by rfl, ?_⟩) ?_ ?_
             rotate_left
             ·intro w'
              go_simp
              with_reducible rfl
             rotate_left
             ·simp only [Act.put, List.setIfInBounds_toArray, List.set_cons_zero, List.set_cons_succ, i64_w, i32_w]
              rfl
             refine one_ (i := 9) (N := none) #[true, true, true, true, true, true, true, true, true, true, false] rfl rfl (one_of HT_.out (by kernel_rfl)) (by decide) (fun K hK => ?_)
             have hs73 : w72.cell? ⟨gb652, 0, none⟩ = some (.int .u8 0) := (blk_cell BK652.out 0).trans rfl
             have hfs73 := blk_frozen BK652.out 0
             have hns73_1 := NB661_652.out
             have hms73_1 := NB652_661.out
             have hs74 : w72.cell? ⟨gb652, 1, none⟩ = some (.int .i64 0) := (blk_cell BK652.out 1).trans rfl
             have hfs74 := blk_frozen BK652.out 1
             have hns74_1 := NB661_652.out
             have hms74_1 := NB652_661.out
             have hs75 : w72.cell? ⟨gb652, 2, none⟩ = some (.int .i64 0) := (blk_cell BK652.out 2).trans rfl
             have hfs75 := blk_frozen BK652.out 2
             have hns75_1 := NB661_652.out
             have hms75_1 := NB652_661.out
             have hs76 : w72.cell? ⟨gb652, 3, none⟩ = some (.int .i64 0) := (blk_cell BK652.out 3).trans rfl
             have hfs76 := blk_frozen BK652.out 3
             have hns76_1 := NB661_652.out
             have hms76_1 := NB652_661.out
             have hs77 : w72.cell? ⟨gb652, 4, none⟩ = some (.int .i64 0) := (blk_cell BK652.out 4).trans rfl
             have hfs77 := blk_frozen BK652.out 4
             have hns77_1 := NB661_652.out
             have hms77_1 := NB652_661.out
             refine skip_ (w1 := ?_) (by rfl) rfl ?_ ?_
             rotate_left
             ·go_simp
              rfl
             refine hK.out _ _ ⟨((cell_far (p := ⟨gb652, _, none⟩) NB661_652.out _).trans (((cell_far (p := ⟨gb652, _, none⟩) NB661_652.out _).trans (((cell_far (p := ⟨gb652, _, none⟩) NB661_652.out _).trans (((cell_far (p := ⟨gb652, _, none⟩) NB661_652.out _).trans (((cell_far (p := ⟨gb652, _, none⟩) NB661_652.out _).trans (hHeld.1)))))))))), ((cell_far (p := ⟨gb652, _, none⟩) NB661_652.out _).trans (((cell_far (p := ⟨gb652, _, none⟩) NB661_652.out _).trans (((cell_far (p := ⟨gb652, _, none⟩) NB661_652.out _).trans (((cell_far (p := ⟨gb652, _, none⟩) NB661_652.out _).trans (((cell_far (p := ⟨gb652, _, none⟩) NB661_652.out _).trans (hHeld.2.1)))))))))), ((cell_far (p := ⟨gb652, _, none⟩) NB661_652.out _).trans (((cell_far (p := ⟨gb652, _, none⟩) NB661_652.out _).trans (((cell_far (p := ⟨gb652, _, none⟩) NB661_652.out _).trans (((cell_far (p := ⟨gb652, _, none⟩) NB661_652.out _).trans (((cell_far (p := ⟨gb652, _, none⟩) NB661_652.out _).trans (hHeld.2.2.1)))))))))), ((cell_far (p := ⟨gb652, _, none⟩) NB661_652.out _).trans (((cell_far (p := ⟨gb652, _, none⟩) NB661_652.out _).trans (((cell_far (p := ⟨gb652, _, none⟩) NB661_652.out _).trans (((cell_far (p := ⟨gb652, _, none⟩) NB661_652.out _).trans (((cell_far (p := ⟨gb652, _, none⟩) NB661_652.out _).trans (hHeld.2.2.2.1)))))))))), ((cell_far (p := ⟨gb652, _, none⟩) NB661_652.out _).trans (((cell_far (p := ⟨gb652, _, none⟩) NB661_652.out _).trans (((cell_far (p := ⟨gb652, _, none⟩) NB661_652.out _).trans (((cell_far (p := ⟨gb652, _, none⟩) NB661_652.out _).trans (((cell_far (p := ⟨gb652, _, none⟩) NB661_652.out _).trans (hHeld.2.2.2.2))))))))))⟩ (fun hHeld => ?_)
             clear hK K
             refine pure_ (i := 10) (N := some 5) (v := ?_) (a' := ?_) #[true, true, true, true, true, true, true, true, true, true, true] rfl rfl (any_of HT_.out (by kernel_rfl)) (fun _ _ _ h => h) (Or.inl ⟨by rfl, ?_⟩) ?_ ?_
             rotate_left
             ·intro w'
              go_simp
              with_reducible rfl
             rotate_left
             ·simp only [Act.put, List.setIfInBounds_toArray, List.set_cons_zero, List.set_cons_succ, i64_w, i32_w]
              rfl
             refine done_ (done_of HT_.out (by kernel_rfl)) ?_
             try go_wp2
             refine bodyPost_ret (results_ct rfl _ _ gb652 33 #[.int .u8 a0, .int .i64 x662001_40, .int .i64 x662002_46, .int .i64 (wrap64 (t672)), .int .i64 x662004_35] (0, 0) _ rfl (by (with_reducible repeat (first | refine blk_drewN ?_ _ | refine blk_drew ?_ | refine blk_alloc ?_ _)); refine blk_put (cs := #[.int .u8 a0, .int .i64 x662001_40, .int .i64 x662002_46, .int .i64 (wrap64 (t672)), .int .i64 0]) ?_ 4 _ rfl; (with_reducible repeat (first | refine blk_drewN ?_ _ | refine blk_drew ?_ | refine blk_alloc ?_ _)); refine blk_put (cs := #[.int .u8 a0, .int .i64 x662001_40, .int .i64 x662002_46, .int .i64 0, .int .i64 0]) ?_ 3 _ rfl; (with_reducible repeat (first | refine blk_drewN ?_ _ | refine blk_drew ?_ | refine blk_alloc ?_ _)); refine blk_put (cs := #[.int .u8 a0, .int .i64 x662001_40, .int .i64 0, .int .i64 0, .int .i64 0]) ?_ 2 _ rfl; (with_reducible repeat (first | refine blk_drewN ?_ _ | refine blk_drew ?_ | refine blk_alloc ?_ _)); refine blk_put (cs := #[.int .u8 a0, .int .i64 0, .int .i64 0, .int .i64 0, .int .i64 0]) ?_ 1 _ rfl; (with_reducible repeat (first | refine blk_drewN ?_ _ | refine blk_drew ?_ | refine blk_alloc ?_ _)); refine blk_put (cs := #[.int .u8 0, .int .i64 0, .int .i64 0, .int .i64 0, .int .i64 0]) ?_ 0 _ rfl; (with_reducible repeat (first | refine blk_drewN ?_ _ | refine blk_drew ?_ | refine blk_alloc ?_ _)); exact BK652.out) Tryd.underlying33 rfl (by kernel_rfl)) rfl ?_
             exact ⟨by first | rfl | (simp <;> rfl) | (simp [*] <;> rfl), by repeat (first | (with_reducible first | exact HB.out | apply below_alloc | apply pw_below_drewN | apply below_drew1 | refine below_set ?_ GE652.out | refine below_set ?_ GE661.out) | exact HB.out)⟩
           ·replace c52 := Bool.eq_false_iff.mpr c52
            subst c52
            have H1 : ((quoinref02_May.f kj46 a0 x662001_40 x662002_46 0 x662004_35).bind fun t675 => (if t675 = true then ((quoinref03_Coded.f kj46 a0 x662001_40 x662002_46 0 x662004_35).bind fun t676 => (some (a0, x662001_40, x662002_46, 0, x662004_35, (t676 == a1)))) else (some (a0, x662001_40, x662002_46, 0, x662004_35, false)))) = some (r1, r2, r3, r4, r5, r6) := by rw [if_neg (show ¬ (false = true) by decide)] at H; exact H
            clear H
            have H := H1
            clear H1
            replace H := Option.bind_eq_some_iff.mp H
            obtain ⟨t675, A780, H⟩ := H
            have A78 := Aside0.mk A780
            clear A780
            by_cases c79 : t675 = true
            ·subst c79
             have H1 : ((quoinref03_Coded.f kj46 a0 x662001_40 x662002_46 0 x662004_35).bind fun t676 => (some (a0, x662001_40, x662002_46, 0, x662004_35, (t676 == a1)))) = some (r1, r2, r3, r4, r5, r6) := by rw [if_pos rfl] at H; exact H
             clear H
             have H := H1
             clear H1
             replace H := Option.bind_eq_some_iff.mp H
             obtain ⟨t676, A800, H⟩ := H
             replace H : (some (a0, x662001_40, x662002_46, 0, x662004_35, (t676 == a1))) = some (r1, r2, r3, r4, r5, r6) := H
             have A80 := Aside0.mk A800
             clear A800
             simp only [Option.some.injEq, Prod.mk.injEq] at H
             obtain ⟨rfl, rfl, rfl, rfl, rfl, rfl⟩ := H
             try go_wp2
             have n0_ := Aside0.mk (blk_drew BK652.out)
             have n1_ := Aside0.mk (blk_drew BK661.out)
             have n2_ := Aside0.mk (below_drew1 HB.out)
             clear BK652
             clear BK661
             clear HB
             have BK652 := n0_
             have BK661 := n1_
             have HB := n2_
             clear n0_ n1_ n2_
             refine start_ (n := 11) (S := fun w' => w'.cell? ⟨gb661, 0, none⟩ = some (.int .u8 a0) ∧ w'.cell? ⟨gb661, 1, none⟩ = some (.int .i64 x662001_40) ∧ w'.cell? ⟨gb661, 2, none⟩ = some (.int .i64 x662002_46) ∧ w'.cell? ⟨gb661, 3, none⟩ = some (.int .i64 0) ∧ w'.cell? ⟨gb661, 4, none⟩ = some (.int .i64 x662004_35)) (ds := []) #[false, false, false, false, false, false, false, false, false, false, false] (by kernel_rfl) rfl rfl ⟨(blk_cell BK661.out 0).trans rfl, (blk_cell BK661.out 1).trans rfl, (blk_cell BK661.out 2).trans rfl, (blk_cell BK661.out 3).trans rfl, (blk_cell BK661.out 4).trans rfl⟩ (fun hHeld => ?_); refine with_tabW quoinref04_Read.tab21 quoinref04_Read.bits21 (fun HT_ HW_ => ?_)
             generalize wc.drew = w81 at BK652 BK661 HB hHeld ⊢
             refine take_ (i := 0) (N := some 79) (v := ?_) (a' := ?_) #[true, false, false, false, false, false, false, false, false, false, false] rfl rfl (take_ofW HT_.out HW_.out (by kernel_rfl)) (fun _ _ _ h => h) (Or.inl ⟨by rfl, ?_⟩) hHeld ?_ ?_
             rotate_left
             ·rintro w' ⟨s0, s1, s2, s3, s4⟩
              go_simp
              with_reducible rfl
             rotate_left
             ·simp only [Act.put, List.setIfInBounds_toArray, List.set_cons_zero, List.set_cons_succ, i64_w, i32_w]
              rfl
             refine take_ (i := 1) (N := some 80) (v := ?_) (a' := ?_) #[true, true, false, false, false, false, false, false, false, false, false] rfl rfl (take_ofW HT_.out HW_.out (by kernel_rfl)) (fun _ _ _ h => h) (Or.inl ⟨by rfl, ?_⟩) hHeld ?_ ?_
             rotate_left
             ·rintro w' ⟨s0, s1, s2, s3, s4⟩
              go_simp
              with_reducible rfl
             rotate_left
             ·simp only [Act.put, List.setIfInBounds_toArray, List.set_cons_zero, List.set_cons_succ, i64_w, i32_w]
              rfl
             refine one_ (i := 2) (N := some 81) #[true, true, true, false, false, false, false, false, false, false, false] rfl rfl (one_of HT_.out (by kernel_rfl)) (by decide) (fun K hK => ?_)
             refine goes_ Tryd.func65 (by kernel_rfl) rfl #[.agg #[.int .u8 a0, .int .i64 x662001_40, .int .i64 x662002_46, .int .i64 0, .int .i64 x662004_35]] (by rfl) rfl rfl (by (try simp only [List.map_toArray, List.map_cons, List.map_nil]); first | done | rfl) ?_
             with_reducible refine (quoinref02_May.calls kj46 a0 x662001_40 x662002_46 0 x662004_35 true _ A78.out).mono ?_
             rintro e w82 ⟨rfl, hb⟩
             refine ⟨_, rfl, ?_⟩
             have n0_ := Aside0.mk (blk_below (g := gb652) (o := .cells #[.int .u8 0, .int .i64 0, .int .i64 0, .int .i64 0, .int .i64 0] 33 (0, 0)) (bk BK652.out) hb)
             have n1_ := Aside0.mk (blk_below (g := gb661) (o := .cells #[.int .u8 a0, .int .i64 x662001_40, .int .i64 x662002_46, .int .i64 0, .int .i64 x662004_35] 33 (0, 0)) (bk BK661.out) hb)
             have n2_ := Aside0.mk (below_step (by repeat (first | (with_reducible first | exact HB.out | apply below_alloc | apply pw_below_drewN | apply below_drew1 | refine below_set ?_ GE652.out | refine below_set ?_ GE661.out) | exact HB.out)) hb)
             clear BK652
             clear BK661
             clear HB
             have BK652 := n0_
             have BK661 := n1_
             have HB := n2_
             clear n0_ n1_ n2_
             (try clear hb)
             (try clear hb2)
             (try clear hk)
             (try clear hi)
             refine hK.out _ _ ⟨(blk_cell BK661.out 0).trans rfl, (blk_cell BK661.out 1).trans rfl, (blk_cell BK661.out 2).trans rfl, (blk_cell BK661.out 3).trans rfl, (blk_cell BK661.out 4).trans rfl⟩ (fun hHeld => ?_)
             clear hK K
             refine norm_ (a' := ?_) ?_ ?_
             rotate_left
             ·show Act.put _ (some 81) _ = _
              simp only [Act.put, List.setIfInBounds_toArray, List.set_cons_zero, List.set_cons_succ, i64_w, i32_w]
              rfl
             refine pure_ (i := 3) (N := some 82) (v := ?_) (a' := ?_) #[true, true, true, true, false, false, false, false, false, false, false] rfl rfl (any_of HT_.out (by kernel_rfl)) (fun _ _ _ h => h) (Or.inl ⟨by rfl, ?_⟩) ?_ ?_
             rotate_left
             ·intro w'
              go_simp
              with_reducible rfl
             rotate_left
             ·simp only [Act.put, List.setIfInBounds_toArray, List.set_cons_zero, List.set_cons_succ, i64_w, i32_w]
              rfl
             refine pure_ (i := 6) (N := some 85) (v := ?_) (a' := ?_) #[true, true, true, true, false, false, true, false, false, false, false] rfl rfl (any_of HT_.out (by kernel_rfl)) (fun _ _ _ h => h) (Or.inl ⟨by rfl, ?_⟩) ?_ ?_
             rotate_left
             ·intro w'
              go_simp
              with_reducible rfl
             rotate_left
             ·simp only [Act.put, List.setIfInBounds_toArray, List.set_cons_zero, List.set_cons_succ, i64_w, i32_w]
              rfl
             refine take_ (i := 4) (N := some 83) (v := ?_) (a' := ?_) #[true, true, true, true, true, false, true, false, false, false, false] rfl rfl (take_ofW HT_.out HW_.out (by kernel_rfl)) (fun _ _ _ h => h) (Or.inl ⟨by rfl, ?_⟩) hHeld ?_ ?_
             rotate_left
             ·rintro w' ⟨s0, s1, s2, s3, s4⟩
              go_simp
              with_reducible rfl
             rotate_left
             ·simp only [Act.put, List.setIfInBounds_toArray, List.set_cons_zero, List.set_cons_succ, i64_w, i32_w]
              rfl
             refine one_ (i := 5) (N := some 84) #[true, true, true, true, true, true, true, false, false, false, false] rfl rfl (one_of HT_.out (by kernel_rfl)) (by decide) (fun K hK => ?_)
             refine goes_ Tryd.func67 (by kernel_rfl) rfl #[.agg #[.int .u8 a0, .int .i64 x662001_40, .int .i64 x662002_46, .int .i64 0, .int .i64 x662004_35]] (by rfl) rfl rfl (by (try simp only [List.map_toArray, List.map_cons, List.map_nil]); first | done | rfl) ?_
             with_reducible refine (quoinref03_Coded.calls kj46 a0 x662001_40 x662002_46 0 x662004_35 t676 _ A80.out).mono ?_
             rintro e w83 ⟨rfl, hb⟩
             refine ⟨_, rfl, ?_⟩
             have n0_ := Aside0.mk (blk_below (g := gb652) (o := .cells #[.int .u8 0, .int .i64 0, .int .i64 0, .int .i64 0, .int .i64 0] 33 (0, 0)) (bk BK652.out) hb)
             have n1_ := Aside0.mk (blk_below (g := gb661) (o := .cells #[.int .u8 a0, .int .i64 x662001_40, .int .i64 x662002_46, .int .i64 0, .int .i64 x662004_35] 33 (0, 0)) (bk BK661.out) hb)
             have n2_ := Aside0.mk (below_step (by repeat (first | (with_reducible first | exact HB.out | apply below_alloc | apply pw_below_drewN | apply below_drew1 | refine below_set ?_ GE652.out | refine below_set ?_ GE661.out) | exact HB.out)) hb)
             clear BK652
             clear BK661
             clear HB
             have BK652 := n0_
             have BK661 := n1_
             have HB := n2_
             clear n0_ n1_ n2_
             (try clear hb)
             (try clear hb2)
             (try clear hk)
             (try clear hi)
             refine hK.out _ _ ⟨(blk_cell BK661.out 0).trans rfl, (blk_cell BK661.out 1).trans rfl, (blk_cell BK661.out 2).trans rfl, (blk_cell BK661.out 3).trans rfl, (blk_cell BK661.out 4).trans rfl⟩ (fun hHeld => ?_)
             clear hK K
             refine norm_ (a' := ?_) ?_ ?_
             rotate_left
             ·show Act.put _ (some 84) _ = _
              simp only [Act.put, List.setIfInBounds_toArray, List.set_cons_zero, List.set_cons_succ, i64_w, i32_w]
              rfl
             refine pure_ (i := 7) (N := some 86) (v := ?_) (a' := ?_) #[true, true, true, true, true, true, true, true, false, false, false] rfl rfl (any_of HT_.out (by kernel_rfl)) (fun _ _ _ h => h) (Or.inl ⟨by rfl, ?_⟩) ?_ ?_
             rotate_left
             ·intro w'
              go_simp
              with_reducible rfl
             rotate_left
             ·simp only [Act.put, List.setIfInBounds_toArray, List.set_cons_zero, List.set_cons_succ, i64_w, i32_w]
              rfl
             refine pure_ (i := 8) (N := some 87) (v := ?_) (a' := ?_) #[true, true, true, true, true, true, true, true, true, false, false] rfl rfl (any_of HT_.out (by kernel_rfl)) (fun _ _ _ h => h) (Or.inl ⟨by rfl, ?_⟩) ?_ ?_
             rotate_left
             ·intro w'
              go_simp
              with_reducible rfl
             rotate_left
             ·simp only [Act.put, List.setIfInBounds_toArray, List.set_cons_zero, List.set_cons_succ, i64_w, i32_w]
              rfl
             refine one_ (i := 9) (N := none) #[true, true, true, true, true, true, true, true, true, true, false] rfl rfl (one_of HT_.out (by kernel_rfl)) (by decide) (fun K hK => ?_)
             have hs84 : w83.cell? ⟨gb652, 0, none⟩ = some (.int .u8 0) := (blk_cell BK652.out 0).trans rfl
             have hfs84 := blk_frozen BK652.out 0
             have hns84_1 := NB661_652.out
             have hms84_1 := NB652_661.out
             have hs85 : w83.cell? ⟨gb652, 1, none⟩ = some (.int .i64 0) := (blk_cell BK652.out 1).trans rfl
             have hfs85 := blk_frozen BK652.out 1
             have hns85_1 := NB661_652.out
             have hms85_1 := NB652_661.out
             have hs86 : w83.cell? ⟨gb652, 2, none⟩ = some (.int .i64 0) := (blk_cell BK652.out 2).trans rfl
             have hfs86 := blk_frozen BK652.out 2
             have hns86_1 := NB661_652.out
             have hms86_1 := NB652_661.out
             have hs87 : w83.cell? ⟨gb652, 3, none⟩ = some (.int .i64 0) := (blk_cell BK652.out 3).trans rfl
             have hfs87 := blk_frozen BK652.out 3
             have hns87_1 := NB661_652.out
             have hms87_1 := NB652_661.out
             have hs88 : w83.cell? ⟨gb652, 4, none⟩ = some (.int .i64 0) := (blk_cell BK652.out 4).trans rfl
             have hfs88 := blk_frozen BK652.out 4
             have hns88_1 := NB661_652.out
             have hms88_1 := NB652_661.out
             refine skip_ (w1 := ?_) (by rfl) rfl ?_ ?_
             rotate_left
             ·go_simp
              rfl
             refine hK.out _ _ ⟨((cell_far (p := ⟨gb652, _, none⟩) NB661_652.out _).trans (((cell_far (p := ⟨gb652, _, none⟩) NB661_652.out _).trans (((cell_far (p := ⟨gb652, _, none⟩) NB661_652.out _).trans (((cell_far (p := ⟨gb652, _, none⟩) NB661_652.out _).trans (((cell_far (p := ⟨gb652, _, none⟩) NB661_652.out _).trans (hHeld.1)))))))))), ((cell_far (p := ⟨gb652, _, none⟩) NB661_652.out _).trans (((cell_far (p := ⟨gb652, _, none⟩) NB661_652.out _).trans (((cell_far (p := ⟨gb652, _, none⟩) NB661_652.out _).trans (((cell_far (p := ⟨gb652, _, none⟩) NB661_652.out _).trans (((cell_far (p := ⟨gb652, _, none⟩) NB661_652.out _).trans (hHeld.2.1)))))))))), ((cell_far (p := ⟨gb652, _, none⟩) NB661_652.out _).trans (((cell_far (p := ⟨gb652, _, none⟩) NB661_652.out _).trans (((cell_far (p := ⟨gb652, _, none⟩) NB661_652.out _).trans (((cell_far (p := ⟨gb652, _, none⟩) NB661_652.out _).trans (((cell_far (p := ⟨gb652, _, none⟩) NB661_652.out _).trans (hHeld.2.2.1)))))))))), ((cell_far (p := ⟨gb652, _, none⟩) NB661_652.out _).trans (((cell_far (p := ⟨gb652, _, none⟩) NB661_652.out _).trans (((cell_far (p := ⟨gb652, _, none⟩) NB661_652.out _).trans (((cell_far (p := ⟨gb652, _, none⟩) NB661_652.out _).trans (((cell_far (p := ⟨gb652, _, none⟩) NB661_652.out _).trans (hHeld.2.2.2.1)))))))))), ((cell_far (p := ⟨gb652, _, none⟩) NB661_652.out _).trans (((cell_far (p := ⟨gb652, _, none⟩) NB661_652.out _).trans (((cell_far (p := ⟨gb652, _, none⟩) NB661_652.out _).trans (((cell_far (p := ⟨gb652, _, none⟩) NB661_652.out _).trans (((cell_far (p := ⟨gb652, _, none⟩) NB661_652.out _).trans (hHeld.2.2.2.2))))))))))⟩ (fun hHeld => ?_)
             clear hK K
             refine pure_ (i := 10) (N := some 5) (v := ?_) (a' := ?_) #[true, true, true, true, true, true, true, true, true, true, true] rfl rfl (any_of HT_.out (by kernel_rfl)) (fun _ _ _ h => h) (Or.inl ⟨by rfl, ?_⟩) ?_ ?_
             rotate_left
             ·intro w'
              go_simp
              with_reducible rfl
             rotate_left
             ·simp only [Act.put, List.setIfInBounds_toArray, List.set_cons_zero, List.set_cons_succ, i64_w, i32_w]
              rfl
             refine done_ (done_of HT_.out (by kernel_rfl)) ?_
             try go_wp2
             refine bodyPost_ret (results_ct rfl _ _ gb652 33 #[.int .u8 a0, .int .i64 x662001_40, .int .i64 x662002_46, .int .i64 0, .int .i64 x662004_35] (0, 0) _ rfl (by (with_reducible repeat (first | refine blk_drewN ?_ _ | refine blk_drew ?_ | refine blk_alloc ?_ _)); refine blk_put (cs := #[.int .u8 a0, .int .i64 x662001_40, .int .i64 x662002_46, .int .i64 0, .int .i64 0]) ?_ 4 _ rfl; (with_reducible repeat (first | refine blk_drewN ?_ _ | refine blk_drew ?_ | refine blk_alloc ?_ _)); refine blk_put (cs := #[.int .u8 a0, .int .i64 x662001_40, .int .i64 x662002_46, .int .i64 0, .int .i64 0]) ?_ 3 _ rfl; (with_reducible repeat (first | refine blk_drewN ?_ _ | refine blk_drew ?_ | refine blk_alloc ?_ _)); refine blk_put (cs := #[.int .u8 a0, .int .i64 x662001_40, .int .i64 0, .int .i64 0, .int .i64 0]) ?_ 2 _ rfl; (with_reducible repeat (first | refine blk_drewN ?_ _ | refine blk_drew ?_ | refine blk_alloc ?_ _)); refine blk_put (cs := #[.int .u8 a0, .int .i64 0, .int .i64 0, .int .i64 0, .int .i64 0]) ?_ 1 _ rfl; (with_reducible repeat (first | refine blk_drewN ?_ _ | refine blk_drew ?_ | refine blk_alloc ?_ _)); refine blk_put (cs := #[.int .u8 0, .int .i64 0, .int .i64 0, .int .i64 0, .int .i64 0]) ?_ 0 _ rfl; (with_reducible repeat (first | refine blk_drewN ?_ _ | refine blk_drew ?_ | refine blk_alloc ?_ _)); exact BK652.out) Tryd.underlying33 rfl (by kernel_rfl)) rfl ?_
             exact ⟨by first | rfl | (simp <;> rfl) | (simp [*] <;> rfl), by repeat (first | (with_reducible first | exact HB.out | apply below_alloc | apply pw_below_drewN | apply below_drew1 | refine below_set ?_ GE652.out | refine below_set ?_ GE661.out) | exact HB.out)⟩
            ·replace c79 := Bool.eq_false_iff.mpr c79
             subst c79
             have H1 : (some (a0, x662001_40, x662002_46, 0, x662004_35, false)) = some (r1, r2, r3, r4, r5, r6) := by rw [if_neg (show ¬ (false = true) by decide)] at H; exact H
             clear H
             have H := H1
             clear H1
             simp only [Option.some.injEq, Prod.mk.injEq] at H
             obtain ⟨rfl, rfl, rfl, rfl, rfl, rfl⟩ := H
             try go_wp2
             have n0_ := Aside0.mk (blk_drew BK652.out)
             have n1_ := Aside0.mk (blk_drew BK661.out)
             have n2_ := Aside0.mk (below_drew1 HB.out)
             clear BK652
             clear BK661
             clear HB
             have BK652 := n0_
             have BK661 := n1_
             have HB := n2_
             clear n0_ n1_ n2_
             refine start_ (n := 11) (S := fun w' => w'.cell? ⟨gb661, 0, none⟩ = some (.int .u8 a0) ∧ w'.cell? ⟨gb661, 1, none⟩ = some (.int .i64 x662001_40) ∧ w'.cell? ⟨gb661, 2, none⟩ = some (.int .i64 x662002_46) ∧ w'.cell? ⟨gb661, 3, none⟩ = some (.int .i64 0) ∧ w'.cell? ⟨gb661, 4, none⟩ = some (.int .i64 x662004_35)) (ds := []) #[false, false, false, false, false, false, false, false, false, false, false] (by kernel_rfl) rfl rfl ⟨(blk_cell BK661.out 0).trans rfl, (blk_cell BK661.out 1).trans rfl, (blk_cell BK661.out 2).trans rfl, (blk_cell BK661.out 3).trans rfl, (blk_cell BK661.out 4).trans rfl⟩ (fun hHeld => ?_); refine with_tabW quoinref04_Read.tab21 quoinref04_Read.bits21 (fun HT_ HW_ => ?_)
             generalize wc.drew = w89 at BK652 BK661 HB hHeld ⊢
             refine take_ (i := 0) (N := some 79) (v := ?_) (a' := ?_) #[true, false, false, false, false, false, false, false, false, false, false] rfl rfl (take_ofW HT_.out HW_.out (by kernel_rfl)) (fun _ _ _ h => h) (Or.inl ⟨by rfl, ?_⟩) hHeld ?_ ?_
             rotate_left
             ·rintro w' ⟨s0, s1, s2, s3, s4⟩
              go_simp
              with_reducible rfl
             rotate_left
             ·simp only [Act.put, List.setIfInBounds_toArray, List.set_cons_zero, List.set_cons_succ, i64_w, i32_w]
              rfl
             refine take_ (i := 1) (N := some 80) (v := ?_) (a' := ?_) #[true, true, false, false, false, false, false, false, false, false, false] rfl rfl (take_ofW HT_.out HW_.out (by kernel_rfl)) (fun _ _ _ h => h) (Or.inl ⟨by rfl, ?_⟩) hHeld ?_ ?_
             rotate_left
             ·rintro w' ⟨s0, s1, s2, s3, s4⟩
              go_simp
              with_reducible rfl
             rotate_left
             ·simp only [Act.put, List.setIfInBounds_toArray, List.set_cons_zero, List.set_cons_succ, i64_w, i32_w]
              rfl
             refine one_ (i := 2) (N := some 81) #[true, true, true, false, false, false, false, false, false, false, false] rfl rfl (one_of HT_.out (by kernel_rfl)) (by decide) (fun K hK => ?_)
             refine goes_ Tryd.func65 (by kernel_rfl) rfl #[.agg #[.int .u8 a0, .int .i64 x662001_40, .int .i64 x662002_46, .int .i64 0, .int .i64 x662004_35]] (by rfl) rfl rfl (by (try simp only [List.map_toArray, List.map_cons, List.map_nil]); first | done | rfl) ?_
             with_reducible refine (quoinref02_May.calls kj46 a0 x662001_40 x662002_46 0 x662004_35 false _ A78.out).mono ?_
             rintro e w90 ⟨rfl, hb⟩
             refine ⟨_, rfl, ?_⟩
             have n0_ := Aside0.mk (blk_below (g := gb652) (o := .cells #[.int .u8 0, .int .i64 0, .int .i64 0, .int .i64 0, .int .i64 0] 33 (0, 0)) (bk BK652.out) hb)
             have n1_ := Aside0.mk (blk_below (g := gb661) (o := .cells #[.int .u8 a0, .int .i64 x662001_40, .int .i64 x662002_46, .int .i64 0, .int .i64 x662004_35] 33 (0, 0)) (bk BK661.out) hb)
             have n2_ := Aside0.mk (below_step (by repeat (first | (with_reducible first | exact HB.out | apply below_alloc | apply pw_below_drewN | apply below_drew1 | refine below_set ?_ GE652.out | refine below_set ?_ GE661.out) | exact HB.out)) hb)
             clear BK652
             clear BK661
             clear HB
             have BK652 := n0_
             have BK661 := n1_
             have HB := n2_
             clear n0_ n1_ n2_
             (try clear hb)
             (try clear hb2)
             (try clear hk)
             (try clear hi)
             refine hK.out _ _ ⟨(blk_cell BK661.out 0).trans rfl, (blk_cell BK661.out 1).trans rfl, (blk_cell BK661.out 2).trans rfl, (blk_cell BK661.out 3).trans rfl, (blk_cell BK661.out 4).trans rfl⟩ (fun hHeld => ?_)
             clear hK K
             refine norm_ (a' := ?_) ?_ ?_
             rotate_left
             ·show Act.put _ (some 81) _ = _
              simp only [Act.put, List.setIfInBounds_toArray, List.set_cons_zero, List.set_cons_succ, i64_w, i32_w]
              rfl
             refine pure_ (i := 3) (N := some 82) (v := ?_) (a' := ?_) #[true, true, true, true, false, false, false, false, false, false, false] rfl rfl (any_of HT_.out (by kernel_rfl)) (fun _ _ _ h => h) (Or.inl ⟨by rfl, ?_⟩) ?_ ?_
             rotate_left
             ·intro w'
              go_simp
              with_reducible rfl
             rotate_left
             ·simp only [Act.put, List.setIfInBounds_toArray, List.set_cons_zero, List.set_cons_succ, i64_w, i32_w]
              rfl
             refine pure_ (i := 4) (N := some 83) (v := undef) (a' := ?_) #[true, true, true, true, true, false, false, false, false, false, false] rfl rfl (any_of HT_.out (by kernel_rfl)) (fun _ _ _ h => h) (Or.inr ⟨by rfl, rfl⟩) ?_ ?_
             rotate_left
             ·simp only [Act.put, List.setIfInBounds_toArray, List.set_cons_zero, List.set_cons_succ, i64_w, i32_w]
              rfl
             refine pure_ (i := 5) (N := some 84) (v := undef) (a' := ?_) #[true, true, true, true, true, true, false, false, false, false, false] rfl rfl (any_of HT_.out (by kernel_rfl)) (fun _ _ _ h => h) (Or.inr ⟨by rfl, rfl⟩) ?_ ?_
             rotate_left
             ·simp only [Act.put, List.setIfInBounds_toArray, List.set_cons_zero, List.set_cons_succ, i64_w, i32_w]
              rfl
             refine pure_ (i := 6) (N := some 85) (v := undef) (a' := ?_) #[true, true, true, true, true, true, true, false, false, false, false] rfl rfl (any_of HT_.out (by kernel_rfl)) (fun _ _ _ h => h) (Or.inr ⟨by rfl, rfl⟩) ?_ ?_
             rotate_left
             ·simp only [Act.put, List.setIfInBounds_toArray, List.set_cons_zero, List.set_cons_succ, i64_w, i32_w]
              rfl
             refine pure_ (i := 7) (N := some 86) (v := undef) (a' := ?_) #[true, true, true, true, true, true, true, true, false, false, false] rfl rfl (any_of HT_.out (by kernel_rfl)) (fun _ _ _ h => h) (Or.inr ⟨by rfl, rfl⟩) ?_ ?_
             rotate_left
             ·simp only [Act.put, List.setIfInBounds_toArray, List.set_cons_zero, List.set_cons_succ, i64_w, i32_w]
              rfl
             refine pure_ (i := 8) (N := some 87) (v := ?_) (a' := ?_) #[true, true, true, true, true, true, true, true, true, false, false] rfl rfl (any_of HT_.out (by kernel_rfl)) (fun _ _ _ h => h) (Or.inl ⟨by rfl, ?_⟩) ?_ ?_
             rotate_left
             ·intro w'
              go_simp
              with_reducible rfl
             rotate_left
             ·simp only [Act.put, List.setIfInBounds_toArray, List.set_cons_zero, List.set_cons_succ, i64_w, i32_w]
              rfl
             refine one_ (i := 9) (N := none) #[true, true, true, true, true, true, true, true, true, true, false] rfl rfl (one_of HT_.out (by kernel_rfl)) (by decide) (fun K hK => ?_)
             have hs91 : w90.cell? ⟨gb652, 0, none⟩ = some (.int .u8 0) := (blk_cell BK652.out 0).trans rfl
             have hfs91 := blk_frozen BK652.out 0
             have hns91_1 := NB661_652.out
             have hms91_1 := NB652_661.out
             have hs92 : w90.cell? ⟨gb652, 1, none⟩ = some (.int .i64 0) := (blk_cell BK652.out 1).trans rfl
             have hfs92 := blk_frozen BK652.out 1
             have hns92_1 := NB661_652.out
             have hms92_1 := NB652_661.out
             have hs93 : w90.cell? ⟨gb652, 2, none⟩ = some (.int .i64 0) := (blk_cell BK652.out 2).trans rfl
             have hfs93 := blk_frozen BK652.out 2
             have hns93_1 := NB661_652.out
             have hms93_1 := NB652_661.out
             have hs94 : w90.cell? ⟨gb652, 3, none⟩ = some (.int .i64 0) := (blk_cell BK652.out 3).trans rfl
             have hfs94 := blk_frozen BK652.out 3
             have hns94_1 := NB661_652.out
             have hms94_1 := NB652_661.out
             have hs95 : w90.cell? ⟨gb652, 4, none⟩ = some (.int .i64 0) := (blk_cell BK652.out 4).trans rfl
             have hfs95 := blk_frozen BK652.out 4
             have hns95_1 := NB661_652.out
             have hms95_1 := NB652_661.out
             refine skip_ (w1 := ?_) (by rfl) rfl ?_ ?_
             rotate_left
             ·go_simp
              rfl
             refine hK.out _ _ ⟨((cell_far (p := ⟨gb652, _, none⟩) NB661_652.out _).trans (((cell_far (p := ⟨gb652, _, none⟩) NB661_652.out _).trans (((cell_far (p := ⟨gb652, _, none⟩) NB661_652.out _).trans (((cell_far (p := ⟨gb652, _, none⟩) NB661_652.out _).trans (((cell_far (p := ⟨gb652, _, none⟩) NB661_652.out _).trans (hHeld.1)))))))))), ((cell_far (p := ⟨gb652, _, none⟩) NB661_652.out _).trans (((cell_far (p := ⟨gb652, _, none⟩) NB661_652.out _).trans (((cell_far (p := ⟨gb652, _, none⟩) NB661_652.out _).trans (((cell_far (p := ⟨gb652, _, none⟩) NB661_652.out _).trans (((cell_far (p := ⟨gb652, _, none⟩) NB661_652.out _).trans (hHeld.2.1)))))))))), ((cell_far (p := ⟨gb652, _, none⟩) NB661_652.out _).trans (((cell_far (p := ⟨gb652, _, none⟩) NB661_652.out _).trans (((cell_far (p := ⟨gb652, _, none⟩) NB661_652.out _).trans (((cell_far (p := ⟨gb652, _, none⟩) NB661_652.out _).trans (((cell_far (p := ⟨gb652, _, none⟩) NB661_652.out _).trans (hHeld.2.2.1)))))))))), ((cell_far (p := ⟨gb652, _, none⟩) NB661_652.out _).trans (((cell_far (p := ⟨gb652, _, none⟩) NB661_652.out _).trans (((cell_far (p := ⟨gb652, _, none⟩) NB661_652.out _).trans (((cell_far (p := ⟨gb652, _, none⟩) NB661_652.out _).trans (((cell_far (p := ⟨gb652, _, none⟩) NB661_652.out _).trans (hHeld.2.2.2.1)))))))))), ((cell_far (p := ⟨gb652, _, none⟩) NB661_652.out _).trans (((cell_far (p := ⟨gb652, _, none⟩) NB661_652.out _).trans (((cell_far (p := ⟨gb652, _, none⟩) NB661_652.out _).trans (((cell_far (p := ⟨gb652, _, none⟩) NB661_652.out _).trans (((cell_far (p := ⟨gb652, _, none⟩) NB661_652.out _).trans (hHeld.2.2.2.2))))))))))⟩ (fun hHeld => ?_)
             clear hK K
             refine pure_ (i := 10) (N := some 5) (v := ?_) (a' := ?_) #[true, true, true, true, true, true, true, true, true, true, true] rfl rfl (any_of HT_.out (by kernel_rfl)) (fun _ _ _ h => h) (Or.inl ⟨by rfl, ?_⟩) ?_ ?_
             rotate_left
             ·intro w'
              go_simp
              with_reducible rfl
             rotate_left
             ·simp only [Act.put, List.setIfInBounds_toArray, List.set_cons_zero, List.set_cons_succ, i64_w, i32_w]
              rfl
             refine done_ (done_of HT_.out (by kernel_rfl)) ?_
             try go_wp2
             refine bodyPost_ret (results_ct rfl _ _ gb652 33 #[.int .u8 a0, .int .i64 x662001_40, .int .i64 x662002_46, .int .i64 0, .int .i64 x662004_35] (0, 0) _ rfl (by (with_reducible repeat (first | refine blk_drewN ?_ _ | refine blk_drew ?_ | refine blk_alloc ?_ _)); refine blk_put (cs := #[.int .u8 a0, .int .i64 x662001_40, .int .i64 x662002_46, .int .i64 0, .int .i64 0]) ?_ 4 _ rfl; (with_reducible repeat (first | refine blk_drewN ?_ _ | refine blk_drew ?_ | refine blk_alloc ?_ _)); refine blk_put (cs := #[.int .u8 a0, .int .i64 x662001_40, .int .i64 x662002_46, .int .i64 0, .int .i64 0]) ?_ 3 _ rfl; (with_reducible repeat (first | refine blk_drewN ?_ _ | refine blk_drew ?_ | refine blk_alloc ?_ _)); refine blk_put (cs := #[.int .u8 a0, .int .i64 x662001_40, .int .i64 0, .int .i64 0, .int .i64 0]) ?_ 2 _ rfl; (with_reducible repeat (first | refine blk_drewN ?_ _ | refine blk_drew ?_ | refine blk_alloc ?_ _)); refine blk_put (cs := #[.int .u8 a0, .int .i64 0, .int .i64 0, .int .i64 0, .int .i64 0]) ?_ 1 _ rfl; (with_reducible repeat (first | refine blk_drewN ?_ _ | refine blk_drew ?_ | refine blk_alloc ?_ _)); refine blk_put (cs := #[.int .u8 0, .int .i64 0, .int .i64 0, .int .i64 0, .int .i64 0]) ?_ 0 _ rfl; (with_reducible repeat (first | refine blk_drewN ?_ _ | refine blk_drew ?_ | refine blk_alloc ?_ _)); exact BK652.out) Tryd.underlying33 rfl (by kernel_rfl)) rfl ?_
             exact ⟨by first | rfl | (simp <;> rfl) | (simp [*] <;> rfl), by repeat (first | (with_reducible first | exact HB.out | apply below_alloc | apply pw_below_drewN | apply below_drew1 | refine below_set ?_ GE652.out | refine below_set ?_ GE661.out) | exact HB.out)⟩

end Go.Proofs.YtpijiohiohiilaaDoor.D
