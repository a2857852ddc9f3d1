/- dec.fields, whose registers are stored through pointers in a slice of structs: it answers what its Lean function tells. No condition. -/
import Derived.Test.YtpijiohiohiilaaDoorDEnc
import Derived.Test.YtpijiohiohiilaaDoorDDec
import Derived.Test.YtpijiohiohiilaaDoorGReg
import Derived.RegionTactic
namespace Go.Proofs.YtpijiohiohiilaaDoor.D
open Go.RowKit Go.Proofs.YtpijiohiohiilaaDoorW.PrintWords Go.Proofs.YtpijiohiohiilaaDoorW.PrintLast Go.Proofs.YtpijiohiohiilaaDoorW.PrintMore
set_option linter.unusedVariables false
set_option linter.unusedSimpArgs false

/-- Five bits from a place on, if there is one. -/
def fld1 (p w : Int) : Int := if 0 ≤ p then wrap64 (Go.bits .and .u32 (shr .u32 w p) 31) else 0
def dec_fields.f (k : Nat) (a0 a1 a2 : Int) : Option (Int × Int × Int × Int × Int) := (dec_number.f k a1 a2).bind fun n => (dec_registers.f k a1).bind fun b =>
 some (a0, fld1 b.1 a2, fld1 b.2.1 a2, fld1 b.2.2 a2, n)
theorem dec_fields.mono : ∀ a0 a1 a2 k, LeO (dec_fields.f k a0 a1 a2) (dec_fields.f (k + 1) a0 a1 a2) := by
 intro a0 a1 a2 k
 unfold dec_fields.f
 exact LeO.bind (dec_number.mono _ _ _) (fun _ => LeO.bind (dec_registers.mono _ _) (fun _ => LeO.refl _))
/-- What memory holds behind i rounds: g is the instruction's block, the next one the slice's. -/
structure FR (w : World) (g : Nat) (a0 n d s t x y z : Int) (wr : World) : Prop where
 b : wr.heap[g]? = some (.cells #[.int .u8 a0, .int .i64 x, .int .i64 y, .int .i64 z, .int .i64 n] 33 (0, 0))
 s : wr.heap[g + 1]? = some (.cells #[.int .i64 d, .pointer (some ⟨g, 1, none⟩), .int .i64 s, .pointer (some ⟨g, 2, none⟩), .int .i64 t, .pointer (some ⟨g, 3, none⟩)] 113 (0, 0))
 r : wr.heap[w.heap.size]? = some (.cells #[.int .u8 0, .int .i64 0, .int .i64 0, .int .i64 0, .int .i64 0] 33 (0, 0))
 below : Below w.heap.size w wr
 lt : w.heap.size < g
theorem FR.alloc {w wr : World} {g : Nat} {a0 n d s t x y z : Int} (h : FR w g a0 n d s t x y z wr) (o : Obj) : FR w g a0 n d s t x y z (wr.alloc o) :=
 ⟨blk_alloc h.b o, blk_alloc h.s o, blk_alloc h.r o, below_alloc h.below o, h.lt⟩
theorem FR.drew {w wr : World} {g : Nat} {a0 n d s t x y z : Int} (h : FR w g a0 n d s t x y z wr) : FR w g a0 n d s t x y z wr.drew :=
 ⟨h.b, h.s, h.r, below_drew h.below, h.lt⟩
theorem FR.set {w wr : World} {g : Nat} {a0 n d s t x y z x' y' z' : Int} (h : FR w g a0 n d s t x y z wr) (i : Nat) (v : Value)
  (e : (#[.int .u8 a0, .int .i64 x, .int .i64 y, .int .i64 z, .int .i64 n] : Array Value).setIfInBounds i v = #[.int .u8 a0, .int .i64 x', .int .i64 y', .int .i64 z', .int .i64 n]) : FR w g a0 n d s t x' y' z' (wr.setCell ⟨g, i, none⟩ v) :=
 ⟨blk_put h.b i v e, blk_far h.s (by simp) v, blk_far h.r (by have := h.lt; simp; omega) v, below_set h.below (by have := h.lt; omega), h.lt⟩
def reg3 (i j : Nat) (v : Int) : Int := if j < i then v else 0
set_option maxHeartbeats 3200000 in
set_option maxRecDepth 100000 in
theorem dec_fields.calls (k : Nat) (a0 a1 a2 : Int) (r1 r2 r3 r4 r5 : Int) (w : World) (h : dec_fields.f k a0 a1 a2 = some (r1, r2, r3, r4, r5)) :
  Calls Tryd.prog 57 #[.int .u8 a0, .int .u8 a1, .int .u32 a2] w fun e w' => e = .returned (.agg #[.int .u8 r1, .int .i64 r2, .int .i64 r3, .int .i64 r4, .int .i64 r5]) ∧ Below w.heap.size w w' := by
 unfold dec_fields.f at h
 obtain ⟨n, hn, h⟩ := Option.bind_eq_some_iff.mp h
 obtain ⟨⟨d, s, t⟩, hr, h⟩ := Option.bind_eq_some_iff.mp h
 simp only [Option.some.injEq, Prod.mk.injEq] at h
 have A1 := Aside0.mk hn
 have A2 := Aside0.mk hr
 have E := Aside0.mk h
 clear hn hr h
 go_enter Tryd.func57, Tryd.ntmps57
 go_wp2_with (first
  | (go_at_call 76; (with_reducible refine (dec_number.calls k a1 a2 n _ A1.out).mono ?_); rintro e w1 ⟨rfl, hb⟩)
  | (go_at_call 61; (with_reducible refine (dec_registers.calls k a1 d s t _ A2.out).mono ?_); rintro e w' ⟨rfl, ⟨nd, rfl⟩⟩))
 have hR : w1.heap[w.heap.size]? = some (.cells #[.int .u8 0, .int .i64 0, .int .i64 0, .int .i64 0, .int .i64 0] 33 (0, 0)) := blk_below (blk_new w _) hb
 have hlt : w.heap.size < w1.heap.size := blk_lt hR
 have hw1 : Below w.heap.size w w1 := (below_alloc (Below.refl _ _) _).trans (hb.mono (by simp))
 have F0 : ∀ nd, FR w w1.heap.size a0 n d s t 0 0 0 (((w1.alloc (.cells #[.int .u8 a0, .int .i64 0, .int .i64 0, .int .i64 0, .int .i64 n] 33 (0, 0))).drewN nd).alloc
   (.cells #[.int .i64 d, .pointer (some ⟨w1.heap.size, 1, none⟩), .int .i64 s, .pointer (some ⟨w1.heap.size, 2, none⟩), .int .i64 t, .pointer (some ⟨w1.heap.size, 3, none⟩)] 113 (0, 0))) := by
  intro nd
  refine ⟨blk_alloc (blk_drewN (blk_new _ _) nd) _, ?_, blk_alloc (blk_drewN (blk_alloc hR _) nd) _, below_alloc (pw_below_drewN (below_alloc hw1 _) nd) _, hlt⟩
  have := blk_new ((w1.alloc (.cells #[.int .u8 a0, .int .i64 0, .int .i64 0, .int .i64 0, .int .i64 n] 33 (0, 0))).drewN nd) (.cells #[.int .i64 d, .pointer (some ⟨w1.heap.size, 1, none⟩), .int .i64 s, .pointer (some ⟨w1.heap.size, 2, none⟩), .int .i64 t, .pointer (some ⟨w1.heap.size, 3, none⟩)] 113 (0, 0))
  simpa using this
 have F1 := Aside0.mk F0
 clear F0 hR hb hw1 hlt
 generalize w1.heap.size = g at *
 go_loopw [35] (fun v35 wr => ∃ i : Nat, i ≤ 3 ∧ v35 = .int .i64 i ∧ Aside0 (FR w g a0 n d s t (reg3 i 0 (fld1 d a2)) (reg3 i 1 (fld1 s a2)) (reg3 i 2 (fld1 t a2)) wr)) (fun v35 _ => (3 - intOf v35).toNat)
 case atStart => exact ⟨0, by omega, rfl, ⟨F1.out _⟩⟩
 case round =>
  clear F1
  obtain ⟨i, hi, rfl, HF⟩ := hrel
  have hl0 := blk_lt HF.out.b
  have hl1 := blk_lt HF.out.s
  have hl2 := HF.out.lt
  match i, hi with
  | 0, _ =>
   as_aux_lemma =>
   have s0 : wr.cell? ⟨g + 1, 0, none⟩ = some (.int .i64 d) := (blk_cell HF.out.s 0).trans rfl
   have s1 : wr.cell? ⟨g + 1, 1, none⟩ = some (.pointer (some ⟨g, 1, none⟩)) := (blk_cell HF.out.s 1).trans rfl
   have b0 : wr.cell? ⟨g, 1, none⟩ = some (.int .i64 (reg3 0 0 (fld1 d a2))) := (blk_cell HF.out.b 1).trans rfl
   have z0 : wr.frozen? ⟨g, 1, none⟩ = false := blk_frozen HF.out.b 1
   by_cases h0 : 0 ≤ d
   ·have x0 : decide (0 ≤ d) = true := decide_eq_true h0
    go_wp2
    go_region
    all_goals go_wp2
    all_goals go_roundw
    case rel => exact ⟨1, by omega, by first | rfl | go_num, ⟨by repeat (first | exact HF.out | refine FR.drew ?_ | refine FR.alloc ?_ _ | refine FR.set (x := reg3 0 0 (fld1 d a2)) (y := reg3 0 1 (fld1 s a2)) (z := reg3 0 2 (fld1 t a2)) ?_ 1 _ (by simp [reg3, fld1, h0, shr, IntKind.bits]))⟩⟩
    case measure => simp [intOf]
   ·have x0 : decide (0 ≤ d) = false := decide_eq_false h0
    go_wp2
    go_roundw
    case rel => exact ⟨1, by omega, by first | rfl | go_num, ⟨by repeat (first | (have := HF.out; simpa [reg3, fld1, h0] using this) | refine FR.drew ?_ | refine FR.alloc ?_ _)⟩⟩
    case measure => simp [intOf]
  | 1, _ =>
   as_aux_lemma =>
   have s0 : wr.cell? ⟨g + 1, 2, none⟩ = some (.int .i64 s) := (blk_cell HF.out.s 2).trans rfl
   have s1 : wr.cell? ⟨g + 1, 3, none⟩ = some (.pointer (some ⟨g, 2, none⟩)) := (blk_cell HF.out.s 3).trans rfl
   have b0 : wr.cell? ⟨g, 2, none⟩ = some (.int .i64 (reg3 1 1 (fld1 s a2))) := (blk_cell HF.out.b 2).trans rfl
   have z0 : wr.frozen? ⟨g, 2, none⟩ = false := blk_frozen HF.out.b 2
   by_cases h0 : 0 ≤ s
   ·have x0 : decide (0 ≤ s) = true := decide_eq_true h0
    go_wp2
    go_region
    all_goals go_wp2
    all_goals go_roundw
    case rel => exact ⟨2, by omega, by first | rfl | go_num, ⟨by repeat (first | exact HF.out | refine FR.drew ?_ | refine FR.alloc ?_ _ | refine FR.set (x := reg3 1 0 (fld1 d a2)) (y := reg3 1 1 (fld1 s a2)) (z := reg3 1 2 (fld1 t a2)) ?_ 2 _ (by simp [reg3, fld1, h0, shr, IntKind.bits]))⟩⟩
    case measure => simp [intOf]
   ·have x0 : decide (0 ≤ s) = false := decide_eq_false h0
    go_wp2
    go_roundw
    case rel => exact ⟨2, by omega, by first | rfl | go_num, ⟨by repeat (first | (have := HF.out; simpa [reg3, fld1, h0] using this) | refine FR.drew ?_ | refine FR.alloc ?_ _)⟩⟩
    case measure => simp [intOf]
  | 2, _ =>
   as_aux_lemma =>
   have s0 : wr.cell? ⟨g + 1, 4, none⟩ = some (.int .i64 t) := (blk_cell HF.out.s 4).trans rfl
   have s1 : wr.cell? ⟨g + 1, 5, none⟩ = some (.pointer (some ⟨g, 3, none⟩)) := (blk_cell HF.out.s 5).trans rfl
   have b0 : wr.cell? ⟨g, 3, none⟩ = some (.int .i64 (reg3 2 2 (fld1 t a2))) := (blk_cell HF.out.b 3).trans rfl
   have z0 : wr.frozen? ⟨g, 3, none⟩ = false := blk_frozen HF.out.b 3
   by_cases h0 : 0 ≤ t
   ·have x0 : decide (0 ≤ t) = true := decide_eq_true h0
    go_wp2
    go_region
    all_goals go_wp2
    all_goals go_roundw
    case rel => exact ⟨3, by omega, by first | rfl | go_num, ⟨by repeat (first | exact HF.out | refine FR.drew ?_ | refine FR.alloc ?_ _ | refine FR.set (x := reg3 2 0 (fld1 d a2)) (y := reg3 2 1 (fld1 s a2)) (z := reg3 2 2 (fld1 t a2)) ?_ 3 _ (by simp [reg3, fld1, h0, shr, IntKind.bits]))⟩⟩
    case measure => simp [intOf]
   ·have x0 : decide (0 ≤ t) = false := decide_eq_false h0
    go_wp2
    go_roundw
    case rel => exact ⟨3, by omega, by first | rfl | go_num, ⟨by repeat (first | (have := HF.out; simpa [reg3, fld1, h0] using this) | refine FR.drew ?_ | refine FR.alloc ?_ _)⟩⟩
    case measure => simp [intOf]
  | 3, _ =>
   as_aux_lemma =>
   have c0 : wr.cell? ⟨g, 0, none⟩ = some (.int .u8 a0) := (blk_cell HF.out.b 0).trans rfl
   have c1 : wr.cell? ⟨g, 1, none⟩ = some (.int .i64 (reg3 3 0 (fld1 d a2))) := (blk_cell HF.out.b 1).trans rfl
   have c2 : wr.cell? ⟨g, 2, none⟩ = some (.int .i64 (reg3 3 1 (fld1 s a2))) := (blk_cell HF.out.b 2).trans rfl
   have c3 : wr.cell? ⟨g, 3, none⟩ = some (.int .i64 (reg3 3 2 (fld1 t a2))) := (blk_cell HF.out.b 3).trans rfl
   have c4 : wr.cell? ⟨g, 4, none⟩ = some (.int .i64 n) := (blk_cell HF.out.b 4).trans rfl
   have q0 : wr.cell? ⟨w.heap.size, 0, none⟩ = some (.int .u8 0) := (blk_cell HF.out.r 0).trans rfl
   have f0 : wr.frozen? ⟨w.heap.size, 0, none⟩ = false := blk_frozen HF.out.r 0
   have q1 : wr.cell? ⟨w.heap.size, 1, none⟩ = some (.int .i64 0) := (blk_cell HF.out.r 1).trans rfl
   have f1 : wr.frozen? ⟨w.heap.size, 1, none⟩ = false := blk_frozen HF.out.r 1
   have q2 : wr.cell? ⟨w.heap.size, 2, none⟩ = some (.int .i64 0) := (blk_cell HF.out.r 2).trans rfl
   have f2 : wr.frozen? ⟨w.heap.size, 2, none⟩ = false := blk_frozen HF.out.r 2
   have q3 : wr.cell? ⟨w.heap.size, 3, none⟩ = some (.int .i64 0) := (blk_cell HF.out.r 3).trans rfl
   have f3 : wr.frozen? ⟨w.heap.size, 3, none⟩ = false := blk_frozen HF.out.r 3
   have q4 : wr.cell? ⟨w.heap.size, 4, none⟩ = some (.int .i64 0) := (blk_cell HF.out.r 4).trans rfl
   have f4 : wr.frozen? ⟨w.heap.size, 4, none⟩ = false := blk_frozen HF.out.r 4
   have R00 := blk_put (cs' := #[.int .u8 a0, .int .i64 0, .int .i64 0, .int .i64 0, .int .i64 0]) HF.out.r 0 (.int .u8 a0) rfl
   have R0 := Aside0.mk R00
   clear R00
   have R10 := blk_put (cs' := #[.int .u8 a0, .int .i64 (reg3 3 0 (fld1 d a2)), .int .i64 0, .int .i64 0, .int .i64 0]) R0.out 1 (.int .i64 (reg3 3 0 (fld1 d a2))) rfl
   have R1 := Aside0.mk R10
   clear R10
   have R20 := blk_put (cs' := #[.int .u8 a0, .int .i64 (reg3 3 0 (fld1 d a2)), .int .i64 (reg3 3 1 (fld1 s a2)), .int .i64 0, .int .i64 0]) R1.out 2 (.int .i64 (reg3 3 1 (fld1 s a2))) rfl
   have R2 := Aside0.mk R20
   clear R20
   have R30 := blk_put (cs' := #[.int .u8 a0, .int .i64 (reg3 3 0 (fld1 d a2)), .int .i64 (reg3 3 1 (fld1 s a2)), .int .i64 (reg3 3 2 (fld1 t a2)), .int .i64 0]) R2.out 3 (.int .i64 (reg3 3 2 (fld1 t a2))) rfl
   have R3 := Aside0.mk R30
   clear R30
   have R40 := blk_put (cs' := #[.int .u8 a0, .int .i64 (reg3 3 0 (fld1 d a2)), .int .i64 (reg3 3 1 (fld1 s a2)), .int .i64 (reg3 3 2 (fld1 t a2)), .int .i64 n]) R3.out 4 (.int .i64 n) rfl
   have R4 := Aside0.mk R40
   clear R40
   go_wp2
   obtain ⟨e1, e2, e3, e4, e5⟩ := E.out
   refine bodyPost_ret (results_cell_row rfl _ _ w.heap.size 33 #[.int .u8 a0, .int .i64 (reg3 3 0 (fld1 d a2)), .int .i64 (reg3 3 1 (fld1 s a2)), .int .i64 (reg3 3 2 (fld1 t a2)), .int .i64 n] (0, 0) _ rfl R4.out Tryd.underlying33 rfl (by kernel_rfl)) rfl ?_
   exact ⟨by rw [show reg3 3 0 (fld1 d a2) = r2 from (if_pos (by decide)).trans e2, show reg3 3 1 (fld1 s a2) = r3 from (if_pos (by decide)).trans e3, show reg3 3 2 (fld1 t a2) = r4 from (if_pos (by decide)).trans e4, e1, e5], by repeat (first | exact HF.out.below | (refine below_set ?_ (Nat.le_refl _)) | apply below_alloc | apply pw_below_drewN | apply below_drew)⟩
end Go.Proofs.YtpijiohiohiilaaDoor.D
