/- enc.Base and enc.Word, which read the package variable enc.bases: each answers what its Lean function tells, where the variable holds its numbers. -/
import Derived.Test.YtpijiohiohiilaaDoorDInsn
import Derived.Test.YtpijiohiohiilaaDoorDBits
import Derived.Test.YtpijiohiohiilaaDoorDEnc
namespace Go.Proofs.YtpijiohiohiilaaDoor.D
open Go.RowKit Go.Proofs.YtpijiohiohiilaaDoorW.PrintWords Go.Proofs.YtpijiohiohiilaaDoorW.PrintLast Go.Proofs.YtpijiohiohiilaaDoorW.PrintMore
attribute [local go_sem] max2_int min2_int max_two min_two max_three min_three max_four min_four
set_option linter.unusedVariables false
set_option linter.unusedSimpArgs false

/-- One of the numbers of enc.bases. -/
def enc_baseAt.f (i : Int) : Option Int := if 0 ≤ i ∧ i < 94 then some (basesL.getD i.toNat 0) else none
theorem enc_baseAt_cell {w : World} {i t : Int} (hB : LaidB w) (h : enc_baseAt.f i = some t) : 0 ≤ i ∧ i < 94 ∧ w.cell? ⟨1, i.toNat, none⟩ = some (.int .u32 t) := by
 unfold enc_baseAt.f at h
 by_cases hi : 0 ≤ i ∧ i < 94
 ·rw [if_pos hi] at h
  obtain rfl := Option.some.inj h
  exact ⟨hi.1, hi.2, hB.cell _ (by omega)⟩
 ·rw [if_neg hi] at h; exact absurd h (by simp)
/-- Base: an instruction's bits without its fields. -/
def enc_Base.f (a0 : Int) : Option (Int × Int) := if a0 < 1 then some (0, 2) else if wrap64 a0 > 94 then some (0, 2) else (enc_baseAt.f ((a0 - 1) % 256)).bind fun t => some (t, 0)
set_option maxHeartbeats 800000 in
set_option maxRecDepth 100000 in
theorem enc_Base.calls (a0 : Int) (r1 : Int) (r2 : Int) (w : World) (hB : LaidB w) (h : enc_Base.f a0 = some (r1, r2)) :
  Calls Tryd.prog 30 #[.int .u8 a0] w fun e w' => e = .returned (.tuple #[.int .u32 r1, .int .i64 r2]) ∧ Drawn0 w w' := by
 unfold enc_Base.f at h
 by_cases h1 : a0 < 1
 ·rw [if_pos h1] at h
  simp only [Option.some.injEq, Prod.mk.injEq] at h
  obtain ⟨rfl, rfl⟩ := h
  have c1 : decide (a0 < 1) = true := decide_eq_true h1
  clear h1
  go_enter Tryd.func30, Tryd.ntmps30
  go_wp2
  go_ret2
  exact ⟨rfl, by repeat (first | exact Drawn0.refl _ | apply Drawn0.step)⟩
 ·rw [if_neg h1] at h
  have c1 : decide (a0 < 1) = false := decide_eq_false h1
  by_cases h2 : wrap64 a0 > 94
  ·rw [if_pos h2] at h
   simp only [Option.some.injEq, Prod.mk.injEq] at h
   obtain ⟨rfl, rfl⟩ := h
   have c2 : decide (94 < wrap64 a0) = true := decide_eq_true h2
   clear h1 h2
   go_enter Tryd.func30, Tryd.ntmps30
   go_wp2
   go_ret2
   exact ⟨rfl, by repeat (first | exact Drawn0.refl _ | apply Drawn0.step)⟩
  ·rw [if_neg h2] at h
   have c2 : decide (94 < wrap64 a0) = false := decide_eq_false h2
   obtain ⟨t, ht, h⟩ := Option.bind_eq_some_iff.mp h
   simp only [Option.some.injEq, Prod.mk.injEq] at h
   obtain ⟨rfl, rfl⟩ := h
   obtain ⟨i0_, i1_, hgB⟩ := enc_baseAt_cell hB ht
   clear h1 h2 ht hB
   go_enter Tryd.func30, Tryd.ntmps30
   go_wp2
   go_ret2
   exact ⟨rfl, by repeat (first | exact Drawn0.refl _ | apply Drawn0.step)⟩

/-! ### enc.Word -/
def enc_Word.j0 : Nat → List Int → Int → Bool → Int → Int → Int → Int → Int → Option (Int × Int)
 | 0, _, _, _, _, _, _, _, _ => none
 | k + 1, x7, x9, x35, x187000, x187001, x187002, x187003, x187004 => if x35 = true then (if 0 ≤ (IntKind.u64.wrap ((x7.length : Int))) then ((bits_Scatter.f k (Go.bits .and .u32 ((x9 / 2) % 4294967296) (((shl .u32 1 (IntKind.u64.wrap ((x7.length : Int)))) - 1) % 4294967296)) x7).bind fun bt194 => ((enc_baseAt.f ((x187000 - 1) % 256)).bind fun t196 => (some (Go.bits .or .u32 (Go.bits .or .u32 (Go.bits .or .u32 (Go.bits .or .u32 t196 ((((x187001) % 4294967296) * 128) % 4294967296)) ((((x187002) % 4294967296) * 32768) % 4294967296)) ((((x187003) % 4294967296) * 1048576) % 4294967296)) bt194.1, 0)))) else (none)) else (if 0 ≤ (IntKind.u64.wrap ((x7.length : Int))) then ((bits_Scatter.f k (Go.bits .and .u32 ((x9) % 4294967296) (((shl .u32 1 (IntKind.u64.wrap ((x7.length : Int)))) - 1) % 4294967296)) x7).bind fun bt197 => ((enc_baseAt.f ((x187000 - 1) % 256)).bind fun t199 => (some (Go.bits .or .u32 (Go.bits .or .u32 (Go.bits .or .u32 (Go.bits .or .u32 t199 ((((x187001) % 4294967296) * 128) % 4294967296)) ((((x187002) % 4294967296) * 32768) % 4294967296)) ((((x187003) % 4294967296) * 1048576) % 4294967296)) bt197.1, 0)))) else (none))
def enc_Word.f (k : Nat) (a0_0 : Int) (a0_1 : Int) (a0_2 : Int) (a0_3 : Int) (a0_4 : Int) : Option (Int × Int) := (insn_Check.f k a0_0 a0_1 a0_2 a0_3 a0_4).bind fun t187 => (if t187 = 0 then ((insn_Form.f a0_0).bind fun bt188 => ((enc_Places.f k bt188.1).bind fun bt190 => (if bt188.1 = 74 then (enc_Word.j0 k bt190.1 a0_4 true a0_0 a0_1 a0_2 a0_3 a0_4) else (enc_Word.j0 k bt190.1 a0_4 (bt188.1 == 66) a0_0 a0_1 a0_2 a0_3 a0_4)))) else (some (0, t187)))
theorem enc_Word.mono_l : ∀ k, (∀ y0 y1 y2 y3 y4 y5 y6 y7, LeO (enc_Word.j0 k y0 y1 y2 y3 y4 y5 y6 y7) (enc_Word.j0 (k + 1) y0 y1 y2 y3 y4 y5 y6 y7))
 | 0 => fun _ _ _ _ _ _ _ _ r h => by simp [enc_Word.j0] at h
 | k + 1 => by
  have ih0 := enc_Word.mono_l k
  ·intro y0 y1 y2 y3 y4 y5 y6 y7
   unfold enc_Word.j0
   repeat' first
   | (with_reducible exact ih0 _ _ _ _ _ _ _ _)
   | (with_reducible exact bits_Scatter.mono _ _ _)
   | (with_reducible exact enc_Places.mono _ _)
   | (with_reducible exact insn_Check.mono _ _ _ _ _ _)
   | (with_reducible exact LeO.refl _)
   | (with_reducible exact LeO.none _)
   | (with_reducible refine LeO.ite ?_ ?_)
   | (with_reducible refine LeO.bind ?_ (fun _ => ?_))
   | exact LeO.none _
   | refine LeO.ite ?_ ?_
   | refine LeO.bind ?_ (fun _ => ?_)
theorem enc_Word.mono : ∀ a0 a1 a2 a3 a4 k, LeO (enc_Word.f k a0 a1 a2 a3 a4) (enc_Word.f (k + 1) a0 a1 a2 a3 a4) := by
 intro a0 a1 a2 a3 a4 k
 have ih0 := enc_Word.mono_l k
 unfold enc_Word.f
 repeat' first
   | (with_reducible exact ih0 _ _ _ _ _ _ _ _)
   | (with_reducible exact bits_Scatter.mono _ _ _)
   | (with_reducible exact enc_Places.mono _ _)
   | (with_reducible exact insn_Check.mono _ _ _ _ _ _)
   | (with_reducible exact LeO.refl _)
   | (with_reducible exact LeO.none _)
   | (with_reducible refine LeO.ite ?_ ?_)
   | (with_reducible refine LeO.bind ?_ (fun _ => ?_))
   | exact LeO.none _
   | refine LeO.ite ?_ ?_
   | refine LeO.bind ?_ (fun _ => ?_)
set_option maxHeartbeats 8000000 in
set_option maxRecDepth 100000 in
theorem enc_Word.calls (k : Nat) (a0_0 : Int) (a0_1 : Int) (a0_2 : Int) (a0_3 : Int) (a0_4 : Int) (r1 : Int) (r2 : Int) (w : World) (hB : LaidB w) (h : enc_Word.f k a0_0 a0_1 a0_2 a0_3 a0_4 = some (r1, r2)) :
  Calls Tryd.prog 26 #[.agg #[.int .u8 a0_0, .int .i64 a0_1, .int .i64 a0_2, .int .i64 a0_3, .int .i64 a0_4]] w fun e w' => e = .returned (.tuple #[.int .u32 r1, .int .i64 r2]) ∧ Below w.heap.size w w' := by
 have HLB := Aside0.mk hB
 clear hB
 have hu33 := Tryd.underlying33
 have HB := Aside0.mk (Below.refl w.heap.size w)
 have H : ((insn_Check.f k a0_0 a0_1 a0_2 a0_3 a0_4).bind fun t187 => (if t187 = 0 then ((insn_Form.f a0_0).bind fun bt188 => ((enc_Places.f k bt188.1).bind fun bt190 => (if bt188.1 = 74 then (enc_Word.j0 k bt190.1 a0_4 true a0_0 a0_1 a0_2 a0_3 a0_4) else (enc_Word.j0 k bt190.1 a0_4 (bt188.1 == 66) a0_0 a0_1 a0_2 a0_3 a0_4)))) else (some (0, t187)))) = some (r1, r2) := h
 clear h
 replace H := Option.bind_eq_some_iff.mp H
 obtain ⟨t187, A20, H⟩ := H
 replace H : (if t187 = 0 then ((insn_Form.f a0_0).bind fun bt188 => ((enc_Places.f k bt188.1).bind fun bt190 => (if bt188.1 = 74 then (enc_Word.j0 k bt190.1 a0_4 true a0_0 a0_1 a0_2 a0_3 a0_4) else (enc_Word.j0 k bt190.1 a0_4 (bt188.1 == 66) a0_0 a0_1 a0_2 a0_3 a0_4)))) else (some (0, t187))) = some (r1, r2) := H
 have A2 := Aside0.mk A20
 clear A20
 by_cases c3 : t187 = 0
 ·rw [if_pos c3] at H
  have c3b0 := beq_iff_eq.mpr c3
  have c3b1 := bne_eq_false_iff_eq.mpr c3
  clear c3
  replace H := Option.bind_eq_some_iff.mp H
  obtain ⟨⟨t188, t189⟩, A40, H⟩ := H
  replace H : ((enc_Places.f k t188).bind fun bt190 => (if t188 = 74 then (enc_Word.j0 k bt190.1 a0_4 true a0_0 a0_1 a0_2 a0_3 a0_4) else (enc_Word.j0 k bt190.1 a0_4 (t188 == 66) a0_0 a0_1 a0_2 a0_3 a0_4))) = some (r1, r2) := H
  have A4 := Aside0.mk A40
  clear A40
  replace H := Option.bind_eq_some_iff.mp H
  obtain ⟨⟨t190, t191⟩, A50, H⟩ := H
  replace H : (if t188 = 74 then (enc_Word.j0 k t190 a0_4 true a0_0 a0_1 a0_2 a0_3 a0_4) else (enc_Word.j0 k t190 a0_4 (t188 == 66) a0_0 a0_1 a0_2 a0_3 a0_4)) = some (r1, r2) := H
  have A5 := Aside0.mk A50
  clear A50
  have HC6 := Aside0.mk H
  clear H
  go_enter Tryd.func26, Tryd.ntmps26
  go_upto_region 7 with (first | ((with_reducible refine gate_dst (N := 1) rfl ?_); refine box_event ?hg (N := 1) ?hd (cs := #[.int .u8 a0_0, .int .i64 a0_1, .int .i64 a0_2, .int .i64 a0_3, .int .i64 a0_4]) (t := 33) ?hr ?_; (case hd => rfl); (case hg => rfl); (case hr => first | (go_simp; done) | (go_simp; rfl)); intro gb186 hg w7 hbox hb; have n0_ := Aside0.mk (below_step (bl HB.out) hb); have n1_ := Aside0.mk (hbox); have n2_ := Aside0.mk ((by rw [hg]; exact (below_size (bl HB.out)) : w.heap.size ≤ gb186)); have n3_ := Aside0.mk ((by rw [hg]; exact (below_size (bl HB.out)) : w.heap.size ≤ gb186)); clear HB; have HB := n0_; have BK186 := n1_; have GW186 := n2_; have GE186 := n3_; clear n0_ n1_ n2_ n3_; clear hb hbox hg; obtain ⟨hcz8_0, hcz8_1, hcz8_2, hcz8_3, hcz8_4, hfz8_0, hfz8_1, hfz8_2, hfz8_3, hfz8_4⟩ := cells5 BK186.out) | (go_at_call 28; (with_reducible refine (insn_Check.calls k a0_0 a0_1 a0_2 a0_3 a0_4 t187 _ A2.out).mono ?_); rintro e w9 ⟨rfl, hb⟩; have n0_ := Aside0.mk (blk_below (g := gb186) (o := .cells #[.int .u8 a0_0, .int .i64 a0_1, .int .i64 a0_2, .int .i64 a0_3, .int .i64 a0_4] 33 (0, 0)) (bk BK186.out) hb); have n1_ := Aside0.mk (below_step (by repeat (first | (with_reducible first | exact HB.out | apply below_alloc | apply pw_below_drewN | apply below_drew1 | refine below_set ?_ GE186.out) | exact HB.out)) hb); clear BK186; clear HB; have BK186 := n0_; have HB := n1_; clear n0_ n1_; (try clear hb); (try clear hb2); (try clear hk); (try clear hi); obtain ⟨hcz10_0, hcz10_1, hcz10_2, hcz10_3, hcz10_4, hfz10_0, hfz10_1, hfz10_2, hfz10_3, hfz10_4⟩ := cells5 BK186.out) | (go_at_call 23; (with_reducible refine (insn_Form.calls a0_0 t188 t189 _ A4.out).mono ?_); rintro e w' ⟨rfl, ⟨nd, rfl⟩⟩; (try first | exact ⟨rfl, _, World.drewN_drewN _ _ _⟩ | exact ⟨rfl, _, Eq.trans (World.drewN_drewN _ _ _) (congrArg (World.drewN _) (Nat.add_assoc _ _ _))⟩)) | (go_at_call 43; (with_reducible refine (enc_Places.calls k t188 t190 t191 _ A5.out).mono ?_); rintro e w11 ⟨v192, rfl, ho0, hb⟩; have n0_ := Aside0.mk (Kd.R_lower ho0 (below_size (by repeat (first | (with_reducible first | exact HB.out | apply below_alloc | apply pw_below_drewN | apply below_drew1 | refine below_set ?_ GE186.out) | exact HB.out)))); have n1_ := Aside0.mk (blk_below (g := gb186) (o := .cells #[.int .u8 a0_0, .int .i64 a0_1, .int .i64 a0_2, .int .i64 a0_3, .int .i64 a0_4] 33 (0, 0)) (bk BK186.out) hb); have n2_ := Aside0.mk (below_step (by repeat (first | (with_reducible first | exact HB.out | apply below_alloc | apply pw_below_drewN | apply below_drew1 | refine below_set ?_ GE186.out) | exact HB.out)) hb); clear BK186; clear HB; have HO193 := n0_; have BK186 := n1_; have HB := n2_; clear n0_ n1_ n2_; (try clear hb); (try clear hb2); (try clear hk); (try clear hi); (try clear ho0); obtain ⟨hcz12_0, hcz12_1, hcz12_2, hcz12_3, hcz12_4, hfz12_0, hfz12_1, hfz12_2, hfz12_3, hfz12_4⟩ := cells5 BK186.out))
  repeat (go_quiet (first | ((with_reducible refine gate_dst (N := 1) rfl ?_); refine box_event ?hg (N := 1) ?hd (cs := #[.int .u8 a0_0, .int .i64 a0_1, .int .i64 a0_2, .int .i64 a0_3, .int .i64 a0_4]) (t := 33) ?hr ?_; (case hd => rfl); (case hg => rfl); (case hr => first | (go_simp; done) | (go_simp; rfl)); intro gb186 hg w7 hbox hb; have n0_ := Aside0.mk (below_step (bl HB.out) hb); have n1_ := Aside0.mk (hbox); have n2_ := Aside0.mk ((by rw [hg]; exact (below_size (bl HB.out)) : w.heap.size ≤ gb186)); have n3_ := Aside0.mk ((by rw [hg]; exact (below_size (bl HB.out)) : w.heap.size ≤ gb186)); clear HB; have HB := n0_; have BK186 := n1_; have GW186 := n2_; have GE186 := n3_; clear n0_ n1_ n2_ n3_; clear hb hbox hg; obtain ⟨hcz8_0, hcz8_1, hcz8_2, hcz8_3, hcz8_4, hfz8_0, hfz8_1, hfz8_2, hfz8_3, hfz8_4⟩ := cells5 BK186.out) | (go_at_call 28; (with_reducible refine (insn_Check.calls k a0_0 a0_1 a0_2 a0_3 a0_4 t187 _ A2.out).mono ?_); rintro e w9 ⟨rfl, hb⟩; have n0_ := Aside0.mk (blk_below (g := gb186) (o := .cells #[.int .u8 a0_0, .int .i64 a0_1, .int .i64 a0_2, .int .i64 a0_3, .int .i64 a0_4] 33 (0, 0)) (bk BK186.out) hb); have n1_ := Aside0.mk (below_step (by repeat (first | (with_reducible first | exact HB.out | apply below_alloc | apply pw_below_drewN | apply below_drew1 | refine below_set ?_ GE186.out) | exact HB.out)) hb); clear BK186; clear HB; have BK186 := n0_; have HB := n1_; clear n0_ n1_; (try clear hb); (try clear hb2); (try clear hk); (try clear hi); obtain ⟨hcz10_0, hcz10_1, hcz10_2, hcz10_3, hcz10_4, hfz10_0, hfz10_1, hfz10_2, hfz10_3, hfz10_4⟩ := cells5 BK186.out) | (go_at_call 23; (with_reducible refine (insn_Form.calls a0_0 t188 t189 _ A4.out).mono ?_); rintro e w' ⟨rfl, ⟨nd, rfl⟩⟩; (try first | exact ⟨rfl, _, World.drewN_drewN _ _ _⟩ | exact ⟨rfl, _, Eq.trans (World.drewN_drewN _ _ _) (congrArg (World.drewN _) (Nat.add_assoc _ _ _))⟩)) | (go_at_call 43; (with_reducible refine (enc_Places.calls k t188 t190 t191 _ A5.out).mono ?_); rintro e w11 ⟨v192, rfl, ho0, hb⟩; have n0_ := Aside0.mk (Kd.R_lower ho0 (below_size (by repeat (first | (with_reducible first | exact HB.out | apply below_alloc | apply pw_below_drewN | apply below_drew1 | refine below_set ?_ GE186.out) | exact HB.out)))); have n1_ := Aside0.mk (blk_below (g := gb186) (o := .cells #[.int .u8 a0_0, .int .i64 a0_1, .int .i64 a0_2, .int .i64 a0_3, .int .i64 a0_4] 33 (0, 0)) (bk BK186.out) hb); have n2_ := Aside0.mk (below_step (by repeat (first | (with_reducible first | exact HB.out | apply below_alloc | apply pw_below_drewN | apply below_drew1 | refine below_set ?_ GE186.out) | exact HB.out)) hb); clear BK186; clear HB; have HO193 := n0_; have BK186 := n1_; have HB := n2_; clear n0_ n1_ n2_; (try clear hb); (try clear hb2); (try clear hk); (try clear hi); (try clear ho0); obtain ⟨hcz12_0, hcz12_1, hcz12_2, hcz12_3, hcz12_4, hfz12_0, hfz12_1, hfz12_2, hfz12_3, hfz12_4⟩ := cells5 BK186.out)); go_upto_region 7 with (first | ((with_reducible refine gate_dst (N := 1) rfl ?_); refine box_event ?hg (N := 1) ?hd (cs := #[.int .u8 a0_0, .int .i64 a0_1, .int .i64 a0_2, .int .i64 a0_3, .int .i64 a0_4]) (t := 33) ?hr ?_; (case hd => rfl); (case hg => rfl); (case hr => first | (go_simp; done) | (go_simp; rfl)); intro gb186 hg w7 hbox hb; have n0_ := Aside0.mk (below_step (bl HB.out) hb); have n1_ := Aside0.mk (hbox); have n2_ := Aside0.mk ((by rw [hg]; exact (below_size (bl HB.out)) : w.heap.size ≤ gb186)); have n3_ := Aside0.mk ((by rw [hg]; exact (below_size (bl HB.out)) : w.heap.size ≤ gb186)); clear HB; have HB := n0_; have BK186 := n1_; have GW186 := n2_; have GE186 := n3_; clear n0_ n1_ n2_ n3_; clear hb hbox hg; obtain ⟨hcz8_0, hcz8_1, hcz8_2, hcz8_3, hcz8_4, hfz8_0, hfz8_1, hfz8_2, hfz8_3, hfz8_4⟩ := cells5 BK186.out) | (go_at_call 28; (with_reducible refine (insn_Check.calls k a0_0 a0_1 a0_2 a0_3 a0_4 t187 _ A2.out).mono ?_); rintro e w9 ⟨rfl, hb⟩; have n0_ := Aside0.mk (blk_below (g := gb186) (o := .cells #[.int .u8 a0_0, .int .i64 a0_1, .int .i64 a0_2, .int .i64 a0_3, .int .i64 a0_4] 33 (0, 0)) (bk BK186.out) hb); have n1_ := Aside0.mk (below_step (by repeat (first | (with_reducible first | exact HB.out | apply below_alloc | apply pw_below_drewN | apply below_drew1 | refine below_set ?_ GE186.out) | exact HB.out)) hb); clear BK186; clear HB; have BK186 := n0_; have HB := n1_; clear n0_ n1_; (try clear hb); (try clear hb2); (try clear hk); (try clear hi); obtain ⟨hcz10_0, hcz10_1, hcz10_2, hcz10_3, hcz10_4, hfz10_0, hfz10_1, hfz10_2, hfz10_3, hfz10_4⟩ := cells5 BK186.out) | (go_at_call 23; (with_reducible refine (insn_Form.calls a0_0 t188 t189 _ A4.out).mono ?_); rintro e w' ⟨rfl, ⟨nd, rfl⟩⟩; (try first | exact ⟨rfl, _, World.drewN_drewN _ _ _⟩ | exact ⟨rfl, _, Eq.trans (World.drewN_drewN _ _ _) (congrArg (World.drewN _) (Nat.add_assoc _ _ _))⟩)) | (go_at_call 43; (with_reducible refine (enc_Places.calls k t188 t190 t191 _ A5.out).mono ?_); rintro e w11 ⟨v192, rfl, ho0, hb⟩; have n0_ := Aside0.mk (Kd.R_lower ho0 (below_size (by repeat (first | (with_reducible first | exact HB.out | apply below_alloc | apply pw_below_drewN | apply below_drew1 | refine below_set ?_ GE186.out) | exact HB.out)))); have n1_ := Aside0.mk (blk_below (g := gb186) (o := .cells #[.int .u8 a0_0, .int .i64 a0_1, .int .i64 a0_2, .int .i64 a0_3, .int .i64 a0_4] 33 (0, 0)) (bk BK186.out) hb); have n2_ := Aside0.mk (below_step (by repeat (first | (with_reducible first | exact HB.out | apply below_alloc | apply pw_below_drewN | apply below_drew1 | refine below_set ?_ GE186.out) | exact HB.out)) hb); clear BK186; clear HB; have HO193 := n0_; have BK186 := n1_; have HB := n2_; clear n0_ n1_ n2_; (try clear hb); (try clear hb2); (try clear hk); (try clear hi); (try clear ho0); obtain ⟨hcz12_0, hcz12_1, hcz12_2, hcz12_3, hcz12_4, hfz12_0, hfz12_1, hfz12_2, hfz12_3, hfz12_4⟩ := cells5 BK186.out)))
  (try simp only [Act.put, List.setIfInBounds_toArray, List.set_cons_zero, List.set_cons_succ])
  go_cut [35] (fun v35 wc => ∃ (kq : Nat) (x35_5 : Bool), v35 = .bool x35_5 ∧ Aside0 (enc_Word.j0 kq t190 a0_4 x35_5 a0_0 a0_1 a0_2 a0_3 a0_4 = some (r1, r2)) ∧ Aside0 (kq ≤ k) ∧ Aside0 (Kd.R (Kd.int .i64) 3 wc w.heap.size (fun _ => True) v192 t190) ∧ Aside0 (wc.heap[gb186]? = some (.cells #[.int .u8 a0_0, .int .i64 a0_1, .int .i64 a0_2, .int .i64 a0_3, .int .i64 a0_4] 33 (0, 0))) ∧ Aside0 (Below w.heap.size w wc))
  case first =>
   have H := HC6.out
   clear HC6
   by_cases c13 : t188 = 74
   ·rw [if_pos c13] at H
    have c13b0 := beq_iff_eq.mpr c13
    have c13b1 := bne_eq_false_iff_eq.mpr c13
    clear c13
    (first | rw [c13b0] | (simp only [i64_w, i32_w]; rw [c13b0]) | skip)
    have H' := Aside0.mk H
    clear H
    go_wp2
    repeat (go_quiet (fail); try go_wp2)
    go_meet
    case rel => exact ⟨_, (true), (by first | rfl | (simp; done) | (simp only [i64_w, i32_w]; first | done | rfl | (simp; done)) | (simp [*]; done)), H', ⟨by first | omega | exact Nat.le_refl _⟩, ⟨rm HO193.out⟩, ⟨bk BK186.out⟩, ⟨by repeat (first | (with_reducible first | exact HB.out | apply below_alloc | apply pw_below_drewN | apply below_drew1 | refine below_set ?_ GE186.out) | exact HB.out)⟩⟩
   ·rw [if_neg c13] at H
    have c13b0 := beq_eq_false_iff_ne.mpr c13
    have c13b1 := bne_iff_ne.mpr c13
    (first | rw [c13b0] | (simp only [i64_w, i32_w]; rw [c13b0]) | skip)
    have H' := Aside0.mk H
    clear H
    go_wp2
    repeat (go_quiet (fail); try go_wp2)
    go_meet
    case rel => exact ⟨_, ((t188 == 66)), (by first | rfl | (simp; done) | (simp only [i64_w, i32_w]; first | done | rfl | (simp; done)) | (simp [*]; done)), H', ⟨by first | omega | exact Nat.le_refl _⟩, ⟨rm HO193.out⟩, ⟨bk BK186.out⟩, ⟨by repeat (first | (with_reducible first | exact HB.out | apply below_alloc | apply pw_below_drewN | apply below_drew1 | refine below_set ?_ GE186.out) | exact HB.out)⟩⟩
  case rest =>
   clear HC6
   try clear c1
   try clear c2
   try clear c3
   try clear c3b0
   try clear c3b1
   try clear hcz10_0
   try clear hcz10_1
   try clear hcz10_2
   try clear hcz10_3
   try clear hcz10_4
   try clear hcz12_0
   try clear hcz12_1
   try clear hcz12_2
   try clear hcz12_3
   try clear hcz12_4
   try clear hcz8_0
   try clear hcz8_1
   try clear hcz8_2
   try clear hcz8_3
   try clear hcz8_4
   try clear hfz10_0
   try clear hfz10_1
   try clear hfz10_2
   try clear hfz10_3
   try clear hfz10_4
   try clear hfz12_0
   try clear hfz12_1
   try clear hfz12_2
   try clear hfz12_3
   try clear hfz12_4
   try clear hfz8_0
   try clear hfz8_1
   try clear hfz8_2
   try clear hfz8_3
   try clear hfz8_4
   obtain ⟨kq, x35_5, rfl, HA, HJ5, HO_7, BK186, HB⟩ := hcut
   cases kq with
   | zero => exact absurd HA.out (by simp [enc_Word.j0])
   | succ kj5 =>
    have H := HA.out
    clear HA
    simp only [enc_Word.j0] at H
    by_cases c14 : x35_5 = true
    ·subst c14
     have H1 : (if 0 ≤ (IntKind.u64.wrap ((t190.length : Int))) then ((bits_Scatter.f kj5 (Go.bits .and .u32 ((a0_4 / 2) % 4294967296) (((shl .u32 1 (IntKind.u64.wrap ((t190.length : Int)))) - 1) % 4294967296)) t190).bind fun bt194 => ((enc_baseAt.f ((a0_0 - 1) % 256)).bind fun t196 => (some (Go.bits .or .u32 (Go.bits .or .u32 (Go.bits .or .u32 (Go.bits .or .u32 t196 ((((a0_1) % 4294967296) * 128) % 4294967296)) ((((a0_2) % 4294967296) * 32768) % 4294967296)) ((((a0_3) % 4294967296) * 1048576) % 4294967296)) bt194.1, 0)))) else (none)) = some (r1, r2) := by rw [if_pos rfl] at H; exact H
     clear H
     have H := H1
     clear H1
     obtain ⟨ji15, hji15⟩ : ∃ j_ : Int, (IntKind.u64.wrap ((t190.length : Int))) = j_ := ⟨_, rfl⟩
     replace H : (if 0 ≤ (ji15) then ((bits_Scatter.f kj5 (Go.bits .and .u32 ((a0_4 / 2) % 4294967296) (((shl .u32 1 (ji15)) - 1) % 4294967296)) t190).bind fun bt194 => ((enc_baseAt.f ((a0_0 - 1) % 256)).bind fun t196 => (some (Go.bits .or .u32 (Go.bits .or .u32 (Go.bits .or .u32 (Go.bits .or .u32 t196 ((((a0_1) % 4294967296) * 128) % 4294967296)) ((((a0_2) % 4294967296) * 32768) % 4294967296)) ((((a0_3) % 4294967296) * 1048576) % 4294967296)) bt194.1, 0)))) else (none)) = some (r1, r2) := by first | (rw [hji15] at H; exact H) | (simp only [hji15] at H ⊢; exact H)
     by_cases c16 : 0 ≤ (ji15)
     ·rw [if_pos c16] at H
      have c16b0 := eq_true c16
      have c16b1 : decide (0 ≤ (ji15)) = true := decide_eq_true c16
      clear c16
      obtain ⟨ji17, hji17⟩ : ∃ j_ : Int, (shl .u32 1 (ji15)) = j_ := ⟨_, rfl⟩
      replace H : ((bits_Scatter.f kj5 (Go.bits .and .u32 ((a0_4 / 2) % 4294967296) (((ji17) - 1) % 4294967296)) t190).bind fun bt194 => ((enc_baseAt.f ((a0_0 - 1) % 256)).bind fun t196 => (some (Go.bits .or .u32 (Go.bits .or .u32 (Go.bits .or .u32 (Go.bits .or .u32 t196 ((((a0_1) % 4294967296) * 128) % 4294967296)) ((((a0_2) % 4294967296) * 32768) % 4294967296)) ((((a0_3) % 4294967296) * 1048576) % 4294967296)) bt194.1, 0)))) = some (r1, r2) := by first | (rw [hji17] at H; exact H) | (simp only [hji17] at H ⊢; exact H)
      have hji17_ : (IntKind.u32.wrap (1 * 2 ^ min (ji15).toNat 32)) = ji17 := hji17
      have hji17z : (ji15) ≤ 32 → (IntKind.u32.wrap (1 * 2 ^ (ji15).toNat)) = ji17 := shl_small hji17
      have hji17u : (IntKind.u32.wrap (2 ^ min (ji15).toNat 32)) = ji17 := by have h_ := hji17_; rw [Int.one_mul] at h_; exact h_
      have hji17v : (ji15) ≤ 32 → (IntKind.u32.wrap (2 ^ (ji15).toNat)) = ji17 := fun hle_ => by have h_ := hji17z hle_; rw [Int.one_mul] at h_; exact h_
      replace H := Option.bind_eq_some_iff.mp H
      obtain ⟨⟨t194, t195⟩, A180, H⟩ := H
      replace H : ((enc_baseAt.f ((a0_0 - 1) % 256)).bind fun t196 => (some (Go.bits .or .u32 (Go.bits .or .u32 (Go.bits .or .u32 (Go.bits .or .u32 t196 ((((a0_1) % 4294967296) * 128) % 4294967296)) ((((a0_2) % 4294967296) * 32768) % 4294967296)) ((((a0_3) % 4294967296) * 1048576) % 4294967296)) t194, 0))) = some (r1, r2) := H
      have A18 := Aside0.mk A180
      clear A180
      replace H := Option.bind_eq_some_iff.mp H
      obtain ⟨t196, A190, H⟩ := H
      replace H : (some (Go.bits .or .u32 (Go.bits .or .u32 (Go.bits .or .u32 (Go.bits .or .u32 t196 ((((a0_1) % 4294967296) * 128) % 4294967296)) ((((a0_2) % 4294967296) * 32768) % 4294967296)) ((((a0_3) % 4294967296) * 1048576) % 4294967296)) t194, 0)) = some (r1, r2) := H
      have A19 := Aside0.mk A190
      clear A190
      obtain ⟨i0_, i1_, hgB⟩ := enc_baseAt_cell (LaidB.below HLB.out HB.out) A19.out
      simp only [Option.some.injEq, Prod.mk.injEq] at H
      obtain ⟨rfl, rfl⟩ := H
      obtain ⟨Ao20, co20, eo20⟩ := Kd.R_slice HO_7.out
      subst eo20
      go_wp2_with (first | (go_at_call 54; (with_reducible refine (bits_Scatter.calls kj5 (Go.bits .and .u32 ((a0_4 / 2) % 4294967296) (((ji17) - 1) % 4294967296)) _ _ t190 t194 t195 _ ?side1 ?side2 A18.out).mono ?_); (case side1 => repeat (first | exact (Kd.R_reads' HO_7.out).2.2 | (with_reducible refine Kd.C_alloc ?_ _) | (with_reducible refine Kd.C_drewN ?_ _) | (with_reducible refine Kd.C_drew ?_))); (case side2 => exact (Kd.R_reads' HO_7.out).2.1); rintro e w' ⟨rfl, ⟨nd, rfl⟩⟩; (try first | exact ⟨rfl, _, World.drewN_drewN _ _ _⟩ | exact ⟨rfl, _, Eq.trans (World.drewN_drewN _ _ _) (congrArg (World.drewN _) (Nat.add_assoc _ _ _))⟩); obtain ⟨hcz21_0, hcz21_1, hcz21_2, hcz21_3, hcz21_4, hfz21_0, hfz21_1, hfz21_2, hfz21_3, hfz21_4⟩ := cells5 BK186.out))
      repeat (go_quiet (first | (go_at_call 54; (with_reducible refine (bits_Scatter.calls kj5 (Go.bits .and .u32 ((a0_4 / 2) % 4294967296) (((ji17) - 1) % 4294967296)) _ _ t190 t194 t195 _ ?side1 ?side2 A18.out).mono ?_); (case side1 => repeat (first | exact (Kd.R_reads' HO_7.out).2.2 | (with_reducible refine Kd.C_alloc ?_ _) | (with_reducible refine Kd.C_drewN ?_ _) | (with_reducible refine Kd.C_drew ?_))); (case side2 => exact (Kd.R_reads' HO_7.out).2.1); rintro e w' ⟨rfl, ⟨nd, rfl⟩⟩; (try first | exact ⟨rfl, _, World.drewN_drewN _ _ _⟩ | exact ⟨rfl, _, Eq.trans (World.drewN_drewN _ _ _) (congrArg (World.drewN _) (Nat.add_assoc _ _ _))⟩); obtain ⟨hcz21_0, hcz21_1, hcz21_2, hcz21_3, hcz21_4, hfz21_0, hfz21_1, hfz21_2, hfz21_3, hfz21_4⟩ := cells5 BK186.out)); try go_wp2_with (first | (go_at_call 54; (with_reducible refine (bits_Scatter.calls kj5 (Go.bits .and .u32 ((a0_4 / 2) % 4294967296) (((ji17) - 1) % 4294967296)) _ _ t190 t194 t195 _ ?side1 ?side2 A18.out).mono ?_); (case side1 => repeat (first | exact (Kd.R_reads' HO_7.out).2.2 | (with_reducible refine Kd.C_alloc ?_ _) | (with_reducible refine Kd.C_drewN ?_ _) | (with_reducible refine Kd.C_drew ?_))); (case side2 => exact (Kd.R_reads' HO_7.out).2.1); rintro e w' ⟨rfl, ⟨nd, rfl⟩⟩; (try first | exact ⟨rfl, _, World.drewN_drewN _ _ _⟩ | exact ⟨rfl, _, Eq.trans (World.drewN_drewN _ _ _) (congrArg (World.drewN _) (Nat.add_assoc _ _ _))⟩); obtain ⟨hcz21_0, hcz21_1, hcz21_2, hcz21_3, hcz21_4, hfz21_0, hfz21_1, hfz21_2, hfz21_3, hfz21_4⟩ := cells5 BK186.out)))
      go_ret2
      exact ⟨by first | rfl | (simp <;> rfl) | (simp only [← hji15, ← hji17]; first | rfl | (simp <;> rfl)) | (simp [*] <;> rfl), by repeat (first | (with_reducible first | exact HB.out | apply below_alloc | apply pw_below_drewN | apply below_drew1 | refine below_set ?_ GE186.out) | exact HB.out)⟩
     ·rw [if_neg c16] at H
      exact absurd H (by simp)
    ·replace c14 := Bool.eq_false_iff.mpr c14
     subst c14
     have H1 : (if 0 ≤ (IntKind.u64.wrap ((t190.length : Int))) then ((bits_Scatter.f kj5 (Go.bits .and .u32 ((a0_4) % 4294967296) (((shl .u32 1 (IntKind.u64.wrap ((t190.length : Int)))) - 1) % 4294967296)) t190).bind fun bt197 => ((enc_baseAt.f ((a0_0 - 1) % 256)).bind fun t199 => (some (Go.bits .or .u32 (Go.bits .or .u32 (Go.bits .or .u32 (Go.bits .or .u32 t199 ((((a0_1) % 4294967296) * 128) % 4294967296)) ((((a0_2) % 4294967296) * 32768) % 4294967296)) ((((a0_3) % 4294967296) * 1048576) % 4294967296)) bt197.1, 0)))) else (none)) = some (r1, r2) := by rw [if_neg (show ¬ (false = true) by decide)] at H; exact H
     clear H
     have H := H1
     clear H1
     obtain ⟨ji22, hji22⟩ : ∃ j_ : Int, (IntKind.u64.wrap ((t190.length : Int))) = j_ := ⟨_, rfl⟩
     replace H : (if 0 ≤ (ji22) then ((bits_Scatter.f kj5 (Go.bits .and .u32 ((a0_4) % 4294967296) (((shl .u32 1 (ji22)) - 1) % 4294967296)) t190).bind fun bt197 => ((enc_baseAt.f ((a0_0 - 1) % 256)).bind fun t199 => (some (Go.bits .or .u32 (Go.bits .or .u32 (Go.bits .or .u32 (Go.bits .or .u32 t199 ((((a0_1) % 4294967296) * 128) % 4294967296)) ((((a0_2) % 4294967296) * 32768) % 4294967296)) ((((a0_3) % 4294967296) * 1048576) % 4294967296)) bt197.1, 0)))) else (none)) = some (r1, r2) := by first | (rw [hji22] at H; exact H) | (simp only [hji22] at H ⊢; exact H)
     by_cases c23 : 0 ≤ (ji22)
     ·rw [if_pos c23] at H
      have c23b0 := eq_true c23
      have c23b1 : decide (0 ≤ (ji22)) = true := decide_eq_true c23
      clear c23
      obtain ⟨ji24, hji24⟩ : ∃ j_ : Int, (shl .u32 1 (ji22)) = j_ := ⟨_, rfl⟩
      replace H : ((bits_Scatter.f kj5 (Go.bits .and .u32 ((a0_4) % 4294967296) (((ji24) - 1) % 4294967296)) t190).bind fun bt197 => ((enc_baseAt.f ((a0_0 - 1) % 256)).bind fun t199 => (some (Go.bits .or .u32 (Go.bits .or .u32 (Go.bits .or .u32 (Go.bits .or .u32 t199 ((((a0_1) % 4294967296) * 128) % 4294967296)) ((((a0_2) % 4294967296) * 32768) % 4294967296)) ((((a0_3) % 4294967296) * 1048576) % 4294967296)) bt197.1, 0)))) = some (r1, r2) := by first | (rw [hji24] at H; exact H) | (simp only [hji24] at H ⊢; exact H)
      have hji24_ : (IntKind.u32.wrap (1 * 2 ^ min (ji22).toNat 32)) = ji24 := hji24
      have hji24z : (ji22) ≤ 32 → (IntKind.u32.wrap (1 * 2 ^ (ji22).toNat)) = ji24 := shl_small hji24
      have hji24u : (IntKind.u32.wrap (2 ^ min (ji22).toNat 32)) = ji24 := by have h_ := hji24_; rw [Int.one_mul] at h_; exact h_
      have hji24v : (ji22) ≤ 32 → (IntKind.u32.wrap (2 ^ (ji22).toNat)) = ji24 := fun hle_ => by have h_ := hji24z hle_; rw [Int.one_mul] at h_; exact h_
      replace H := Option.bind_eq_some_iff.mp H
      obtain ⟨⟨t197, t198⟩, A250, H⟩ := H
      replace H : ((enc_baseAt.f ((a0_0 - 1) % 256)).bind fun t199 => (some (Go.bits .or .u32 (Go.bits .or .u32 (Go.bits .or .u32 (Go.bits .or .u32 t199 ((((a0_1) % 4294967296) * 128) % 4294967296)) ((((a0_2) % 4294967296) * 32768) % 4294967296)) ((((a0_3) % 4294967296) * 1048576) % 4294967296)) t197, 0))) = some (r1, r2) := H
      have A25 := Aside0.mk A250
      clear A250
      replace H := Option.bind_eq_some_iff.mp H
      obtain ⟨t199, A260, H⟩ := H
      replace H : (some (Go.bits .or .u32 (Go.bits .or .u32 (Go.bits .or .u32 (Go.bits .or .u32 t199 ((((a0_1) % 4294967296) * 128) % 4294967296)) ((((a0_2) % 4294967296) * 32768) % 4294967296)) ((((a0_3) % 4294967296) * 1048576) % 4294967296)) t197, 0)) = some (r1, r2) := H
      have A26 := Aside0.mk A260
      clear A260
      obtain ⟨i0_, i1_, hgB⟩ := enc_baseAt_cell (LaidB.below HLB.out HB.out) A26.out
      simp only [Option.some.injEq, Prod.mk.injEq] at H
      obtain ⟨rfl, rfl⟩ := H
      obtain ⟨Ao27, co27, eo27⟩ := Kd.R_slice HO_7.out
      subst eo27
      go_wp2_with (first | (go_at_call 54; (with_reducible refine (bits_Scatter.calls kj5 (Go.bits .and .u32 ((a0_4) % 4294967296) (((ji24) - 1) % 4294967296)) _ _ t190 t197 t198 _ ?side1 ?side2 A25.out).mono ?_); (case side1 => repeat (first | exact (Kd.R_reads' HO_7.out).2.2 | (with_reducible refine Kd.C_alloc ?_ _) | (with_reducible refine Kd.C_drewN ?_ _) | (with_reducible refine Kd.C_drew ?_))); (case side2 => exact (Kd.R_reads' HO_7.out).2.1); rintro e w' ⟨rfl, ⟨nd, rfl⟩⟩; (try first | exact ⟨rfl, _, World.drewN_drewN _ _ _⟩ | exact ⟨rfl, _, Eq.trans (World.drewN_drewN _ _ _) (congrArg (World.drewN _) (Nat.add_assoc _ _ _))⟩); obtain ⟨hcz28_0, hcz28_1, hcz28_2, hcz28_3, hcz28_4, hfz28_0, hfz28_1, hfz28_2, hfz28_3, hfz28_4⟩ := cells5 BK186.out))
      repeat (go_quiet (first | (go_at_call 54; (with_reducible refine (bits_Scatter.calls kj5 (Go.bits .and .u32 ((a0_4) % 4294967296) (((ji24) - 1) % 4294967296)) _ _ t190 t197 t198 _ ?side1 ?side2 A25.out).mono ?_); (case side1 => repeat (first | exact (Kd.R_reads' HO_7.out).2.2 | (with_reducible refine Kd.C_alloc ?_ _) | (with_reducible refine Kd.C_drewN ?_ _) | (with_reducible refine Kd.C_drew ?_))); (case side2 => exact (Kd.R_reads' HO_7.out).2.1); rintro e w' ⟨rfl, ⟨nd, rfl⟩⟩; (try first | exact ⟨rfl, _, World.drewN_drewN _ _ _⟩ | exact ⟨rfl, _, Eq.trans (World.drewN_drewN _ _ _) (congrArg (World.drewN _) (Nat.add_assoc _ _ _))⟩); obtain ⟨hcz28_0, hcz28_1, hcz28_2, hcz28_3, hcz28_4, hfz28_0, hfz28_1, hfz28_2, hfz28_3, hfz28_4⟩ := cells5 BK186.out)); try go_wp2_with (first | (go_at_call 54; (with_reducible refine (bits_Scatter.calls kj5 (Go.bits .and .u32 ((a0_4) % 4294967296) (((ji24) - 1) % 4294967296)) _ _ t190 t197 t198 _ ?side1 ?side2 A25.out).mono ?_); (case side1 => repeat (first | exact (Kd.R_reads' HO_7.out).2.2 | (with_reducible refine Kd.C_alloc ?_ _) | (with_reducible refine Kd.C_drewN ?_ _) | (with_reducible refine Kd.C_drew ?_))); (case side2 => exact (Kd.R_reads' HO_7.out).2.1); rintro e w' ⟨rfl, ⟨nd, rfl⟩⟩; (try first | exact ⟨rfl, _, World.drewN_drewN _ _ _⟩ | exact ⟨rfl, _, Eq.trans (World.drewN_drewN _ _ _) (congrArg (World.drewN _) (Nat.add_assoc _ _ _))⟩); obtain ⟨hcz28_0, hcz28_1, hcz28_2, hcz28_3, hcz28_4, hfz28_0, hfz28_1, hfz28_2, hfz28_3, hfz28_4⟩ := cells5 BK186.out)))
      go_ret2
      exact ⟨by first | rfl | (simp <;> rfl) | (simp only [← hji22, ← hji24]; first | rfl | (simp <;> rfl)) | (simp [*] <;> rfl), by repeat (first | (with_reducible first | exact HB.out | apply below_alloc | apply pw_below_drewN | apply below_drew1 | refine below_set ?_ GE186.out) | exact HB.out)⟩
     ·rw [if_neg c23] at H
      exact absurd H (by simp)
 ·rw [if_neg c3] at H
  have c3b0 := beq_eq_false_iff_ne.mpr c3
  have c3b1 := bne_iff_ne.mpr c3
  simp only [Option.some.injEq, Prod.mk.injEq] at H
  obtain ⟨rfl, rfl⟩ := H
  go_enter Tryd.func26, Tryd.ntmps26
  go_wp2_with (first | ((with_reducible refine gate_dst (N := 1) rfl ?_); refine box_event ?hg (N := 1) ?hd (cs := #[.int .u8 a0_0, .int .i64 a0_1, .int .i64 a0_2, .int .i64 a0_3, .int .i64 a0_4]) (t := 33) ?hr ?_; (case hd => rfl); (case hg => rfl); (case hr => first | (go_simp; done) | (go_simp; rfl)); intro gb186 hg w29 hbox hb; have n0_ := Aside0.mk (below_step (bl HB.out) hb); have n1_ := Aside0.mk (hbox); have n2_ := Aside0.mk ((by rw [hg]; exact (below_size (bl HB.out)) : w.heap.size ≤ gb186)); have n3_ := Aside0.mk ((by rw [hg]; exact (below_size (bl HB.out)) : w.heap.size ≤ gb186)); clear HB; have HB := n0_; have BK186 := n1_; have GW186 := n2_; have GE186 := n3_; clear n0_ n1_ n2_ n3_; clear hb hbox hg; obtain ⟨hcz30_0, hcz30_1, hcz30_2, hcz30_3, hcz30_4, hfz30_0, hfz30_1, hfz30_2, hfz30_3, hfz30_4⟩ := cells5 BK186.out) | (go_at_call 28; (with_reducible refine (insn_Check.calls k a0_0 a0_1 a0_2 a0_3 a0_4 t187 _ A2.out).mono ?_); rintro e w31 ⟨rfl, hb⟩; have n0_ := Aside0.mk (blk_below (g := gb186) (o := .cells #[.int .u8 a0_0, .int .i64 a0_1, .int .i64 a0_2, .int .i64 a0_3, .int .i64 a0_4] 33 (0, 0)) (bk BK186.out) hb); have n1_ := Aside0.mk (below_step (by repeat (first | (with_reducible first | exact HB.out | apply below_alloc | apply pw_below_drewN | apply below_drew1 | refine below_set ?_ GE186.out) | exact HB.out)) hb); clear BK186; clear HB; have BK186 := n0_; have HB := n1_; clear n0_ n1_; (try clear hb); (try clear hb2); (try clear hk); (try clear hi)))
  repeat (go_quiet (first | ((with_reducible refine gate_dst (N := 1) rfl ?_); refine box_event ?hg (N := 1) ?hd (cs := #[.int .u8 a0_0, .int .i64 a0_1, .int .i64 a0_2, .int .i64 a0_3, .int .i64 a0_4]) (t := 33) ?hr ?_; (case hd => rfl); (case hg => rfl); (case hr => first | (go_simp; done) | (go_simp; rfl)); intro gb186 hg w29 hbox hb; have n0_ := Aside0.mk (below_step (bl HB.out) hb); have n1_ := Aside0.mk (hbox); have n2_ := Aside0.mk ((by rw [hg]; exact (below_size (bl HB.out)) : w.heap.size ≤ gb186)); have n3_ := Aside0.mk ((by rw [hg]; exact (below_size (bl HB.out)) : w.heap.size ≤ gb186)); clear HB; have HB := n0_; have BK186 := n1_; have GW186 := n2_; have GE186 := n3_; clear n0_ n1_ n2_ n3_; clear hb hbox hg; obtain ⟨hcz30_0, hcz30_1, hcz30_2, hcz30_3, hcz30_4, hfz30_0, hfz30_1, hfz30_2, hfz30_3, hfz30_4⟩ := cells5 BK186.out) | (go_at_call 28; (with_reducible refine (insn_Check.calls k a0_0 a0_1 a0_2 a0_3 a0_4 t187 _ A2.out).mono ?_); rintro e w31 ⟨rfl, hb⟩; have n0_ := Aside0.mk (blk_below (g := gb186) (o := .cells #[.int .u8 a0_0, .int .i64 a0_1, .int .i64 a0_2, .int .i64 a0_3, .int .i64 a0_4] 33 (0, 0)) (bk BK186.out) hb); have n1_ := Aside0.mk (below_step (by repeat (first | (with_reducible first | exact HB.out | apply below_alloc | apply pw_below_drewN | apply below_drew1 | refine below_set ?_ GE186.out) | exact HB.out)) hb); clear BK186; clear HB; have BK186 := n0_; have HB := n1_; clear n0_ n1_; (try clear hb); (try clear hb2); (try clear hk); (try clear hi))); try go_wp2_with (first | ((with_reducible refine gate_dst (N := 1) rfl ?_); refine box_event ?hg (N := 1) ?hd (cs := #[.int .u8 a0_0, .int .i64 a0_1, .int .i64 a0_2, .int .i64 a0_3, .int .i64 a0_4]) (t := 33) ?hr ?_; (case hd => rfl); (case hg => rfl); (case hr => first | (go_simp; done) | (go_simp; rfl)); intro gb186 hg w29 hbox hb; have n0_ := Aside0.mk (below_step (bl HB.out) hb); have n1_ := Aside0.mk (hbox); have n2_ := Aside0.mk ((by rw [hg]; exact (below_size (bl HB.out)) : w.heap.size ≤ gb186)); have n3_ := Aside0.mk ((by rw [hg]; exact (below_size (bl HB.out)) : w.heap.size ≤ gb186)); clear HB; have HB := n0_; have BK186 := n1_; have GW186 := n2_; have GE186 := n3_; clear n0_ n1_ n2_ n3_; clear hb hbox hg; obtain ⟨hcz30_0, hcz30_1, hcz30_2, hcz30_3, hcz30_4, hfz30_0, hfz30_1, hfz30_2, hfz30_3, hfz30_4⟩ := cells5 BK186.out) | (go_at_call 28; (with_reducible refine (insn_Check.calls k a0_0 a0_1 a0_2 a0_3 a0_4 t187 _ A2.out).mono ?_); rintro e w31 ⟨rfl, hb⟩; have n0_ := Aside0.mk (blk_below (g := gb186) (o := .cells #[.int .u8 a0_0, .int .i64 a0_1, .int .i64 a0_2, .int .i64 a0_3, .int .i64 a0_4] 33 (0, 0)) (bk BK186.out) hb); have n1_ := Aside0.mk (below_step (by repeat (first | (with_reducible first | exact HB.out | apply below_alloc | apply pw_below_drewN | apply below_drew1 | refine below_set ?_ GE186.out) | exact HB.out)) hb); clear BK186; clear HB; have BK186 := n0_; have HB := n1_; clear n0_ n1_; (try clear hb); (try clear hb2); (try clear hk); (try clear hi))))
  go_ret2
  exact ⟨by first | rfl | (simp <;> rfl) | (simp [*] <;> rfl), by repeat (first | (with_reducible first | exact HB.out | apply below_alloc | apply pw_below_drewN | apply below_drew1 | refine below_set ?_ GE186.out) | exact HB.out)⟩
end Go.Proofs.YtpijiohiohiilaaDoor.D
