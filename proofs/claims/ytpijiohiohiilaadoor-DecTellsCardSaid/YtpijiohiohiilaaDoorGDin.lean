/- dec.Insn, which tries all instructions in a loop with a label: it answers what its Lean function tells, where enc.bases holds its numbers. -/
import Derived.Test.YtpijiohiohiilaaDoorDInsn
import Derived.Test.YtpijiohiohiilaaDoorDEnc
import Derived.Test.YtpijiohiohiilaaDoorDDec
import Derived.Test.YtpijiohiohiilaaDoorGEnc
import Derived.Test.YtpijiohiohiilaaDoorGFix
import Derived.Test.YtpijiohiohiilaaDoorGDec
import Derived.WalkMore
namespace Go.Proofs.YtpijiohiohiilaaDoor.D
open Go.RowKit Go.Proofs.YtpijiohiohiilaaDoorW.PrintWords Go.Proofs.YtpijiohiohiilaaDoorW.PrintLast Go.Proofs.YtpijiohiohiilaaDoorW.PrintMore
set_option linter.unusedVariables false
set_option linter.unusedSimpArgs false

/-- All instructions are tried, from one on. -/
def dec_Insn.l0 : Nat → Int → Int → Option (Int × Int × Int × Int × Int × Int)
 | 0, _, _ => none
 | k + 1, w, n => if n < 94 then ((insn_Form.f ((wrap64 (n + 1)) % 256)).bind fun fo => ((enc_Base.f ((wrap64 (n + 1)) % 256)).bind fun ba => ((dec_Fixed.f k fo.1).bind fun fx =>
   (if Go.bits .and .u32 w fx.1 = ba.1 then ((dec_fields.f k ((wrap64 (n + 1)) % 256) fo.1 w).bind fun i => (if i.1 = 0 then some (0, 0, 0, 0, 0, 40) else some (i.1, i.2.1, i.2.2.1, i.2.2.2.1, i.2.2.2.2, 0)))
    else dec_Insn.l0 k w (wrap64 (n + 1)))))) else some (0, 0, 0, 0, 0, 40)
def dec_Insn.f (k : Nat) (a0 : Int) : Option (Int × Int × Int × Int × Int × Int) := dec_Insn.l0 k a0 0
theorem dec_Insn.mono_l : ∀ k, (∀ y0 y1, LeO (dec_Insn.l0 k y0 y1) (dec_Insn.l0 (k + 1) y0 y1))
 | 0 => fun _ _ r h => by simp [dec_Insn.l0] at h
 | k + 1 => by
  have ih0 := dec_Insn.mono_l k
  ·intro y0 y1
   unfold dec_Insn.l0
   repeat' first
   | (with_reducible exact ih0 _ _)
   | (with_reducible exact dec_Fixed.mono _ _)
   | (with_reducible exact dec_fields.mono _ _ _ _)
   | (with_reducible exact LeO.refl _)
   | (with_reducible exact LeO.none _)
   | (with_reducible refine LeO.ite ?_ ?_)
   | (with_reducible refine LeO.bind ?_ (fun _ => ?_))
theorem dec_Insn.mono : ∀ a0 k, LeO (dec_Insn.f k a0) (dec_Insn.f (k + 1) a0) := fun a0 k => dec_Insn.mono_l k _ _
/-- What memory holds behind some rounds: the answer's block and what was found, both still zero. -/
structure IR (w wr : World) : Prop where
 r : wr.heap[w.heap.size]? = some (.cells #[.int .u8 0, .int .i64 0, .int .i64 0, .int .i64 0, .int .i64 0] 33 (0, 0))
 f : wr.heap[w.heap.size + 1]? = some (.cells #[.int .u8 0, .int .i64 0, .int .i64 0, .int .i64 0, .int .i64 0] 33 (0, 0))
 below : Below w.heap.size w wr
theorem IR.then_ {w wr w2 : World} (h : IR w wr) (hb : Below wr.heap.size wr w2) : IR w w2 := ⟨blk_below h.r hb, blk_below h.f hb, below_step h.below hb⟩
theorem IR.drewN {w wr : World} (h : IR w wr) (n : Nat) : IR w (wr.drewN n) := ⟨h.r, h.f, pw_below_drewN h.below n⟩
theorem IR.drew {w wr : World} (h : IR w wr) : IR w wr.drew := ⟨h.r, h.f, below_drew h.below⟩
set_option maxHeartbeats 3200000 in
set_option maxRecDepth 100000 in
theorem dec_Insn.calls (k : Nat) (a0 : Int) (r1 r2 r3 r4 r5 r6 : Int) (w : World) (hB : LaidB w) (h : dec_Insn.f k a0 = some (r1, r2, r3, r4, r5, r6)) :
  Calls Tryd.prog 27 #[.int .u32 a0] w fun e w' => e = .returned (.tuple #[.agg #[.int .u8 r1, .int .i64 r2, .int .i64 r3, .int .i64 r4, .int .i64 r5], .int .i64 r6]) ∧ Below w.heap.size w w' := by
 have HLB := Aside0.mk hB
 have H' := Aside0.mk (show dec_Insn.l0 k a0 0 = some (r1, r2, r3, r4, r5, r6) from h)
 clear h hB
 have F0 : ∀ nd, IR w (((w.alloc (.cells #[.int .u8 0, .int .i64 0, .int .i64 0, .int .i64 0, .int .i64 0] 33 (0, 0))).alloc (.cells #[.int .u8 0, .int .i64 0, .int .i64 0, .int .i64 0, .int .i64 0] 33 (0, 0))).drewN nd) := by
  intro nd
  refine IR.drewN ⟨blk_alloc (blk_new _ _) _, ?_, below_alloc (below_alloc (Below.refl _ _) _) _⟩ nd
  have := blk_new (w.alloc (.cells #[.int .u8 0, .int .i64 0, .int .i64 0, .int .i64 0, .int .i64 0] 33 (0, 0))) (.cells #[.int .u8 0, .int .i64 0, .int .i64 0, .int .i64 0, .int .i64 0] 33 (0, 0))
  simpa using this
 have F1 := Aside0.mk F0
 clear F0
 go_enter Tryd.func27, Tryd.ntmps27
 go_wp2
 go_step3
 go_wp2
 go_step3
 go_wp2_with (first | (go_at_call 24; (with_reducible refine (insn_Many.calls 94 _ rfl).mono ?_); rintro e w' ⟨rfl, ⟨nd, rfl⟩⟩))
 go_loopg [14] k (fun kq v14 wr => ∃ n : Int, v14 = .int .i64 n ∧ Aside0 (dec_Insn.l0 kq a0 n = some (r1, r2, r3, r4, r5, r6)) ∧ Aside0 (kq ≤ k) ∧ Aside0 (IR w wr))
 case atStart => exact ⟨0, rfl, H', ⟨Nat.le_refl _⟩, ⟨F1.out _⟩⟩
 case round =>
  clear H' F1
  obtain ⟨n, rfl, HA, HK1, HF⟩ := hrel
  cases gk with
  | zero => exact absurd HA.out (by simp [dec_Insn.l0])
  | succ k1 =>
   have H := HA.out
   clear HA
   simp only [dec_Insn.l0] at H
   by_cases c1 : n < 94
   ·rw [if_pos c1] at H
    have c1b : decide (n < 94) = true := decide_eq_true c1
    clear c1
    obtain ⟨⟨t1, t2⟩, A1, H⟩ := Option.bind_eq_some_iff.mp H
    obtain ⟨⟨t3, t4⟩, A2, H⟩ := Option.bind_eq_some_iff.mp H
    obtain ⟨⟨t5, t6⟩, A3, H⟩ := Option.bind_eq_some_iff.mp H
    have A1 := Aside0.mk A1
    have A2 := Aside0.mk A2
    have A3 := Aside0.mk A3
    simp only [] at H
    by_cases c2 : Go.bits .and .u32 a0 t5 = t3
    ·rw [if_pos c2] at H
     have c2b : (Go.bits .and .u32 a0 t5 == t3) = true := beq_iff_eq.mpr c2
     clear c2
     obtain ⟨⟨i1, i2, i3, i4, i5⟩, A4, H⟩ := Option.bind_eq_some_iff.mp H
     have A4 := Aside0.mk A4
     simp only [] at H
     by_cases c3 : i1 = 0
     ·rw [if_pos c3] at H
      have c3b : (i1 == 0) = true := beq_iff_eq.mpr c3
      have E := Aside0.mk H
      clear H c3
      skip
      go_wp2_with (first | (go_at_call 23; (with_reducible refine (insn_Form.calls _ t1 t2 _ A1.out).mono ?_); rintro e w' ⟨rfl, ⟨nd, rfl⟩⟩) | (go_at_call 30; (with_reducible refine (enc_Base.calls _ t3 t4 _ ?sideLB A2.out).mono ?_); (case sideLB => (repeat (first | exact LaidB.below HLB.out HF.out.below | (with_reducible refine LaidB.drewN ?_ _) | (with_reducible refine LaidB.drew ?_)))); rintro e w' ⟨rfl, ⟨nd, rfl⟩⟩) | (go_at_call 29; (with_reducible refine (dec_Fixed.calls k1 t1 t5 t6 _ A3.out).mono ?_); rintro e w5 ⟨rfl, hb⟩; have n0_ := IR.then_ (w := w) (IR.drewN HF.out _) hb; clear HF hb; have HF := Aside0.mk n0_; clear n0_) | (go_at_call 57; (with_reducible refine (dec_fields.calls k1 _ t1 a0 i1 i2 i3 i4 i5 _ A4.out).mono ?_); rintro e w6 ⟨rfl, hb⟩; have n0_ := IR.then_ (w := w) HF.out hb; clear HF hb; have HF := Aside0.mk n0_; clear n0_; have q0 : w6.cell? ⟨w.heap.size, 0, none⟩ = some (.int .u8 0) := (blk_cell HF.out.r 0).trans rfl; have z0 : w6.frozen? ⟨w.heap.size, 0, none⟩ = false := blk_frozen HF.out.r 0; have p0 : w6.cell? ⟨w.heap.size + 1, 0, none⟩ = some (.int .u8 0) := (blk_cell HF.out.f 0).trans rfl; have y0 : w6.frozen? ⟨w.heap.size + 1, 0, none⟩ = false := blk_frozen HF.out.f 0; have q1 : w6.cell? ⟨w.heap.size, 1, none⟩ = some (.int .i64 0) := (blk_cell HF.out.r 1).trans rfl; have z1 : w6.frozen? ⟨w.heap.size, 1, none⟩ = false := blk_frozen HF.out.r 1; have p1 : w6.cell? ⟨w.heap.size + 1, 1, none⟩ = some (.int .i64 0) := (blk_cell HF.out.f 1).trans rfl; have y1 : w6.frozen? ⟨w.heap.size + 1, 1, none⟩ = false := blk_frozen HF.out.f 1; have q2 : w6.cell? ⟨w.heap.size, 2, none⟩ = some (.int .i64 0) := (blk_cell HF.out.r 2).trans rfl; have z2 : w6.frozen? ⟨w.heap.size, 2, none⟩ = false := blk_frozen HF.out.r 2; have p2 : w6.cell? ⟨w.heap.size + 1, 2, none⟩ = some (.int .i64 0) := (blk_cell HF.out.f 2).trans rfl; have y2 : w6.frozen? ⟨w.heap.size + 1, 2, none⟩ = false := blk_frozen HF.out.f 2; have q3 : w6.cell? ⟨w.heap.size, 3, none⟩ = some (.int .i64 0) := (blk_cell HF.out.r 3).trans rfl; have z3 : w6.frozen? ⟨w.heap.size, 3, none⟩ = false := blk_frozen HF.out.r 3; have p3 : w6.cell? ⟨w.heap.size + 1, 3, none⟩ = some (.int .i64 0) := (blk_cell HF.out.f 3).trans rfl; have y3 : w6.frozen? ⟨w.heap.size + 1, 3, none⟩ = false := blk_frozen HF.out.f 3; have q4 : w6.cell? ⟨w.heap.size, 4, none⟩ = some (.int .i64 0) := (blk_cell HF.out.r 4).trans rfl; have z4 : w6.frozen? ⟨w.heap.size, 4, none⟩ = false := blk_frozen HF.out.r 4; have p4 : w6.cell? ⟨w.heap.size + 1, 4, none⟩ = some (.int .i64 0) := (blk_cell HF.out.f 4).trans rfl; have y4 : w6.frozen? ⟨w.heap.size + 1, 4, none⟩ = false := blk_frozen HF.out.f 4))
      have R := blk_far (p := ⟨w.heap.size + 1, 4, none⟩) (blk_far (p := ⟨w.heap.size + 1, 3, none⟩) (blk_far (p := ⟨w.heap.size + 1, 2, none⟩) (blk_far (p := ⟨w.heap.size + 1, 1, none⟩) (blk_far (p := ⟨w.heap.size + 1, 0, none⟩) (HF.out.r) (by simp) (.int .u8 i1)) (by simp) (.int .i64 i2)) (by simp) (.int .i64 i3)) (by simp) (.int .i64 i4)) (by simp) (.int .i64 i5)
      have R0 := blk_put (cs' := #[.int .u8 0, .int .i64 0, .int .i64 0, .int .i64 0, .int .i64 0]) R 0 (.int .u8 0) rfl
      have R1 := blk_put (cs' := #[.int .u8 0, .int .i64 0, .int .i64 0, .int .i64 0, .int .i64 0]) R0 1 (.int .i64 0) rfl
      have R2 := blk_put (cs' := #[.int .u8 0, .int .i64 0, .int .i64 0, .int .i64 0, .int .i64 0]) R1 2 (.int .i64 0) rfl
      have R3 := blk_put (cs' := #[.int .u8 0, .int .i64 0, .int .i64 0, .int .i64 0, .int .i64 0]) R2 3 (.int .i64 0) rfl
      have R4 := blk_put (cs' := #[.int .u8 0, .int .i64 0, .int .i64 0, .int .i64 0, .int .i64 0]) R3 4 (.int .i64 0) rfl
      (first | rw [Exit.noGoto_ret] | skip)
      refine bodyPost_ret (results_ct rfl _ _ w.heap.size 33 #[.int .u8 0, .int .i64 0, .int .i64 0, .int .i64 0, .int .i64 0] (0, 0) _ rfl R4 Tryd.underlying33 rfl (by kernel_rfl)) rfl ?_
      have e := Option.some.inj E.out
      simp only [Prod.mk.injEq] at e
      obtain ⟨rfl, rfl, rfl, rfl, rfl, rfl⟩ := e
      exact ⟨rfl, by repeat (first | (with_reducible exact HF.out.below) | (with_reducible refine below_set ?_ (Nat.le_refl _)) | (with_reducible refine below_set ?_ (Nat.le_succ _)) | (with_reducible refine below_drew ?_) | (with_reducible refine pw_below_drewN ?_ _))⟩
     ·rw [if_neg c3] at H
      have c3b : (i1 == 0) = false := beq_eq_false_iff_ne.mpr c3
      have E := Aside0.mk H
      clear H c3
      skip
      go_wp2_with (first | (go_at_call 23; (with_reducible refine (insn_Form.calls _ t1 t2 _ A1.out).mono ?_); rintro e w' ⟨rfl, ⟨nd, rfl⟩⟩) | (go_at_call 30; (with_reducible refine (enc_Base.calls _ t3 t4 _ ?sideLB A2.out).mono ?_); (case sideLB => (repeat (first | exact LaidB.below HLB.out HF.out.below | (with_reducible refine LaidB.drewN ?_ _) | (with_reducible refine LaidB.drew ?_)))); rintro e w' ⟨rfl, ⟨nd, rfl⟩⟩) | (go_at_call 29; (with_reducible refine (dec_Fixed.calls k1 t1 t5 t6 _ A3.out).mono ?_); rintro e w5 ⟨rfl, hb⟩; have n0_ := IR.then_ (w := w) (IR.drewN HF.out _) hb; clear HF hb; have HF := Aside0.mk n0_; clear n0_) | (go_at_call 57; (with_reducible refine (dec_fields.calls k1 _ t1 a0 i1 i2 i3 i4 i5 _ A4.out).mono ?_); rintro e w6 ⟨rfl, hb⟩; have n0_ := IR.then_ (w := w) HF.out hb; clear HF hb; have HF := Aside0.mk n0_; clear n0_; have q0 : w6.cell? ⟨w.heap.size, 0, none⟩ = some (.int .u8 0) := (blk_cell HF.out.r 0).trans rfl; have z0 : w6.frozen? ⟨w.heap.size, 0, none⟩ = false := blk_frozen HF.out.r 0; have p0 : w6.cell? ⟨w.heap.size + 1, 0, none⟩ = some (.int .u8 0) := (blk_cell HF.out.f 0).trans rfl; have y0 : w6.frozen? ⟨w.heap.size + 1, 0, none⟩ = false := blk_frozen HF.out.f 0; have q1 : w6.cell? ⟨w.heap.size, 1, none⟩ = some (.int .i64 0) := (blk_cell HF.out.r 1).trans rfl; have z1 : w6.frozen? ⟨w.heap.size, 1, none⟩ = false := blk_frozen HF.out.r 1; have p1 : w6.cell? ⟨w.heap.size + 1, 1, none⟩ = some (.int .i64 0) := (blk_cell HF.out.f 1).trans rfl; have y1 : w6.frozen? ⟨w.heap.size + 1, 1, none⟩ = false := blk_frozen HF.out.f 1; have q2 : w6.cell? ⟨w.heap.size, 2, none⟩ = some (.int .i64 0) := (blk_cell HF.out.r 2).trans rfl; have z2 : w6.frozen? ⟨w.heap.size, 2, none⟩ = false := blk_frozen HF.out.r 2; have p2 : w6.cell? ⟨w.heap.size + 1, 2, none⟩ = some (.int .i64 0) := (blk_cell HF.out.f 2).trans rfl; have y2 : w6.frozen? ⟨w.heap.size + 1, 2, none⟩ = false := blk_frozen HF.out.f 2; have q3 : w6.cell? ⟨w.heap.size, 3, none⟩ = some (.int .i64 0) := (blk_cell HF.out.r 3).trans rfl; have z3 : w6.frozen? ⟨w.heap.size, 3, none⟩ = false := blk_frozen HF.out.r 3; have p3 : w6.cell? ⟨w.heap.size + 1, 3, none⟩ = some (.int .i64 0) := (blk_cell HF.out.f 3).trans rfl; have y3 : w6.frozen? ⟨w.heap.size + 1, 3, none⟩ = false := blk_frozen HF.out.f 3; have q4 : w6.cell? ⟨w.heap.size, 4, none⟩ = some (.int .i64 0) := (blk_cell HF.out.r 4).trans rfl; have z4 : w6.frozen? ⟨w.heap.size, 4, none⟩ = false := blk_frozen HF.out.r 4; have p4 : w6.cell? ⟨w.heap.size + 1, 4, none⟩ = some (.int .i64 0) := (blk_cell HF.out.f 4).trans rfl; have y4 : w6.frozen? ⟨w.heap.size + 1, 4, none⟩ = false := blk_frozen HF.out.f 4))
      have R := blk_far (p := ⟨w.heap.size + 1, 4, none⟩) (blk_far (p := ⟨w.heap.size + 1, 3, none⟩) (blk_far (p := ⟨w.heap.size + 1, 2, none⟩) (blk_far (p := ⟨w.heap.size + 1, 1, none⟩) (blk_far (p := ⟨w.heap.size + 1, 0, none⟩) (HF.out.r) (by simp) (.int .u8 i1)) (by simp) (.int .i64 i2)) (by simp) (.int .i64 i3)) (by simp) (.int .i64 i4)) (by simp) (.int .i64 i5)
      have R0 := blk_put (cs' := #[.int .u8 i1, .int .i64 0, .int .i64 0, .int .i64 0, .int .i64 0]) R 0 (.int .u8 i1) rfl
      have R1 := blk_put (cs' := #[.int .u8 i1, .int .i64 i2, .int .i64 0, .int .i64 0, .int .i64 0]) R0 1 (.int .i64 i2) rfl
      have R2 := blk_put (cs' := #[.int .u8 i1, .int .i64 i2, .int .i64 i3, .int .i64 0, .int .i64 0]) R1 2 (.int .i64 i3) rfl
      have R3 := blk_put (cs' := #[.int .u8 i1, .int .i64 i2, .int .i64 i3, .int .i64 i4, .int .i64 0]) R2 3 (.int .i64 i4) rfl
      have R4 := blk_put (cs' := #[.int .u8 i1, .int .i64 i2, .int .i64 i3, .int .i64 i4, .int .i64 i5]) R3 4 (.int .i64 i5) rfl
      (first | rw [Exit.noGoto_ret] | skip)
      refine bodyPost_ret (results_ct rfl _ _ w.heap.size 33 #[.int .u8 i1, .int .i64 i2, .int .i64 i3, .int .i64 i4, .int .i64 i5] (0, 0) _ rfl R4 Tryd.underlying33 rfl (by kernel_rfl)) rfl ?_
      have e := Option.some.inj E.out
      simp only [Prod.mk.injEq] at e
      obtain ⟨rfl, rfl, rfl, rfl, rfl, rfl⟩ := e
      exact ⟨rfl, by repeat (first | (with_reducible exact HF.out.below) | (with_reducible refine below_set ?_ (Nat.le_refl _)) | (with_reducible refine below_set ?_ (Nat.le_succ _)) | (with_reducible refine below_drew ?_) | (with_reducible refine pw_below_drewN ?_ _))⟩
    ·rw [if_neg c2] at H
     have c2b : (Go.bits .and .u32 a0 t5 == t3) = false := beq_eq_false_iff_ne.mpr c2
     have H' := Aside0.mk H
     clear H c2
     skip
     go_wp2_with (first | (go_at_call 23; (with_reducible refine (insn_Form.calls _ t1 t2 _ A1.out).mono ?_); rintro e w' ⟨rfl, ⟨nd, rfl⟩⟩) | (go_at_call 30; (with_reducible refine (enc_Base.calls _ t3 t4 _ ?sideLB A2.out).mono ?_); (case sideLB => (repeat (first | exact LaidB.below HLB.out HF.out.below | (with_reducible refine LaidB.drewN ?_ _) | (with_reducible refine LaidB.drew ?_)))); rintro e w' ⟨rfl, ⟨nd, rfl⟩⟩) | (go_at_call 29; (with_reducible refine (dec_Fixed.calls k1 t1 t5 t6 _ A3.out).mono ?_); rintro e w5 ⟨rfl, hb⟩; have n0_ := IR.then_ (w := w) (IR.drewN HF.out _) hb; clear HF hb; have HF := Aside0.mk n0_; clear n0_))
     go_roundg k1
     case measure => have := HK1.out; omega
     case rel => exact ⟨wrap64 (n + 1), rfl, H', ⟨by have := HK1.out; omega⟩, ⟨by repeat (first | exact HF.out | (with_reducible refine IR.drewN ?_ _) | (with_reducible refine IR.drew ?_))⟩⟩
   ·rw [if_neg c1] at H
    have c1b : decide (n < 94) = false := decide_eq_false c1
    have E := Aside0.mk H
    clear H c1
    skip
    have q0 : wr.cell? ⟨w.heap.size, 0, none⟩ = some (.int .u8 0) := (blk_cell HF.out.r 0).trans rfl
    have z0 : wr.frozen? ⟨w.heap.size, 0, none⟩ = false := blk_frozen HF.out.r 0
    have p0 : wr.cell? ⟨w.heap.size + 1, 0, none⟩ = some (.int .u8 0) := (blk_cell HF.out.f 0).trans rfl
    have q1 : wr.cell? ⟨w.heap.size, 1, none⟩ = some (.int .i64 0) := (blk_cell HF.out.r 1).trans rfl
    have z1 : wr.frozen? ⟨w.heap.size, 1, none⟩ = false := blk_frozen HF.out.r 1
    have p1 : wr.cell? ⟨w.heap.size + 1, 1, none⟩ = some (.int .i64 0) := (blk_cell HF.out.f 1).trans rfl
    have q2 : wr.cell? ⟨w.heap.size, 2, none⟩ = some (.int .i64 0) := (blk_cell HF.out.r 2).trans rfl
    have z2 : wr.frozen? ⟨w.heap.size, 2, none⟩ = false := blk_frozen HF.out.r 2
    have p2 : wr.cell? ⟨w.heap.size + 1, 2, none⟩ = some (.int .i64 0) := (blk_cell HF.out.f 2).trans rfl
    have q3 : wr.cell? ⟨w.heap.size, 3, none⟩ = some (.int .i64 0) := (blk_cell HF.out.r 3).trans rfl
    have z3 : wr.frozen? ⟨w.heap.size, 3, none⟩ = false := blk_frozen HF.out.r 3
    have p3 : wr.cell? ⟨w.heap.size + 1, 3, none⟩ = some (.int .i64 0) := (blk_cell HF.out.f 3).trans rfl
    have q4 : wr.cell? ⟨w.heap.size, 4, none⟩ = some (.int .i64 0) := (blk_cell HF.out.r 4).trans rfl
    have z4 : wr.frozen? ⟨w.heap.size, 4, none⟩ = false := blk_frozen HF.out.r 4
    have p4 : wr.cell? ⟨w.heap.size + 1, 4, none⟩ = some (.int .i64 0) := (blk_cell HF.out.f 4).trans rfl
    go_wp2
    have R0 := blk_put (cs' := #[.int .u8 0, .int .i64 0, .int .i64 0, .int .i64 0, .int .i64 0]) HF.out.r 0 (.int .u8 0) rfl
    have R1 := blk_put (cs' := #[.int .u8 0, .int .i64 0, .int .i64 0, .int .i64 0, .int .i64 0]) R0 1 (.int .i64 0) rfl
    have R2 := blk_put (cs' := #[.int .u8 0, .int .i64 0, .int .i64 0, .int .i64 0, .int .i64 0]) R1 2 (.int .i64 0) rfl
    have R3 := blk_put (cs' := #[.int .u8 0, .int .i64 0, .int .i64 0, .int .i64 0, .int .i64 0]) R2 3 (.int .i64 0) rfl
    have R4 := blk_put (cs' := #[.int .u8 0, .int .i64 0, .int .i64 0, .int .i64 0, .int .i64 0]) R3 4 (.int .i64 0) rfl
    (first | rw [Exit.noGoto_ret] | skip)
    refine bodyPost_ret (results_ct rfl _ _ w.heap.size 33 #[.int .u8 0, .int .i64 0, .int .i64 0, .int .i64 0, .int .i64 0] (0, 0) _ rfl R4 Tryd.underlying33 rfl (by kernel_rfl)) rfl ?_
    have e := Option.some.inj E.out
    simp only [Prod.mk.injEq] at e
    obtain ⟨rfl, rfl, rfl, rfl, rfl, rfl⟩ := e
    exact ⟨rfl, by repeat (first | (with_reducible exact HF.out.below) | (with_reducible refine below_set ?_ (Nat.le_refl _)) | (with_reducible refine below_set ?_ (Nat.le_succ _)) | (with_reducible refine below_drew ?_) | (with_reducible refine pw_below_drewN ?_ _))⟩
end Go.Proofs.YtpijiohiohiilaaDoor.D
