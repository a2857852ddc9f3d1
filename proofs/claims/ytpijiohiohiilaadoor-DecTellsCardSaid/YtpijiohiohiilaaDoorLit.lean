/- Words of our own for the walks: a literal of numbers or strings, made and only read; a world behind some allocations and draws. No function of the program. -/
import Derived.Test.YtpijiohiohiilaaDoorWMore
import Derived.Test.YtpijiohiohiilaaDoorWShare
namespace Go.Proofs.YtpijiohiohiilaaDoor.D
open Go Go.RowKit Go.Proofs.YtpijiohiohiilaaDoorW.PrintWords Go.Proofs.YtpijiohiohiilaaDoorW.PrintLast Go.Proofs.YtpijiohiohiilaaDoorW.PrintMore
set_option linter.unusedVariables false
set_option linter.unusedSimpArgs false
/-- W2 is W1 behind some allocations and draws. -/
class Stp (W1 W2 : World) : Prop where
  out : ∀ w : World, Below w.heap.size w W1 → Below w.heap.size w W2
instance (W : World) : Stp W W := ⟨fun _ h => h⟩
instance (W1 W : World) (o : Obj) [s : Stp W1 W] : Stp W1 (W.alloc o) := ⟨fun w h => below_alloc (s.out w h) o⟩
instance (W1 W : World) (n : Nat) [s : Stp W1 W] : Stp W1 (W.drewN n) := ⟨fun w h => pw_below_drewN (s.out w h) n⟩
instance (W1 W : World) [s : Stp W1 W] : Stp W1 W.drew := ⟨fun w h => below_drew1 (s.out w h)⟩
theorem bl {w W1 W2 : World} (h : Below w.heap.size w W1) [s : Stp W1 W2] : Below w.heap.size w W2 := s.out w h
theorem bk {g : Nat} {o : Obj} {W1 W2 : World} (h : W1.heap[g]? = some o) [s : Stp W1 W2] : W2.heap[g]? = some o := blk_below h (s.out W1 (Below.refl _ _))
theorem rm {α : Type} {d : Kd α} {e b : Nat} {ok : Nat → Prop} {v : Value} {xs : List α} {W1 W2 : World} (h : d.R e W1 b ok v xs) [s : Stp W1 W2] : d.R e W2 b ok v xs := Kd.R_below h (s.out W1 (Below.refl _ _))
theorem sm {α : Type} {d : Kd α} {e b : Nat} {ok : Nat → Prop} {v : Value} {xs : List α} {W1 W2 : World} (h : Kd.S d e W1 b ok v xs) [s : Stp W1 W2] : Kd.S d e W2 b ok v xs := Kd.S_below h (s.out W1 (Below.refl _ _))
theorem nm {α : Type} {d : Kd α} {e b : Nat} {ok : Nat → Prop} {v : Value} {xs : List α} {W1 W2 : World} (h : Kd.N d e W1 b ok v xs) [s : Stp W1 W2] : Kd.N d e W2 b ok v xs := Kd.N_below h (s.out W1 (Below.refl _ _))
/-- A block of five cells, cell by cell. -/
theorem cells5 {w : World} {g : Nat} {t : TypeId} {a b c d e : Value} (h : w.heap[g]? = some (.cells #[a, b, c, d, e] t (0, 0))) :
    w.cell? ⟨g, 0, none⟩ = some a ∧ w.cell? ⟨g, 1, none⟩ = some b ∧ w.cell? ⟨g, 2, none⟩ = some c ∧ w.cell? ⟨g, 3, none⟩ = some d ∧ w.cell? ⟨g, 4, none⟩ = some e ∧
    w.frozen? ⟨g, 0, none⟩ = false ∧ w.frozen? ⟨g, 1, none⟩ = false ∧ w.frozen? ⟨g, 2, none⟩ = false ∧ w.frozen? ⟨g, 3, none⟩ = false ∧ w.frozen? ⟨g, 4, none⟩ = false :=
  ⟨(blk_cell h 0).trans rfl, (blk_cell h 1).trans rfl, (blk_cell h 2).trans rfl, (blk_cell h 3).trans rfl, (blk_cell h 4).trans rfl, blk_frozen h 0, blk_frozen h 1, blk_frozen h 2, blk_frozen h 3, blk_frozen h 4⟩
theorem reps_scalar {α : Type} {enc : α → Value} {h1 : ∀ x, (enc x).oneCell' = true} {W : World} {okp : Nat → Prop} {base : Nat} (x : List α) :
    Reps ((Kd.scalar enc h1).M W base okp) (Kd.scalar enc h1).sz x (x.map enc) :=
  ⟨by show (x.map enc).length = x.length * 1; rw [List.length_map, Nat.mul_one], fun j q hq => by
    show ((x.map enc).drop (j * 1)).take 1 = [enc q]
    rw [Nat.mul_one, ← List.map_drop, ← List.map_take]
    obtain ⟨hj, rfl⟩ := List.getElem?_eq_some_iff.1 hq
    rw [List.drop_eq_getElem_cons hj]; rfl⟩
section
variable {P : Program} {ops : Array Oper} {rest : List Oper} {o : Oper} {a : Act} {Q : Exit → Act → World → Prop} {W w0 : World}
/-- A literal that is only read. -/
theorem lit_read {α : Type} (enc : α → Value) (h1 : ∀ x, (enc x).oneCell' = true) (e : Nat) (hgd : o.guard = none) {N : Tmp} (hd : o.dst = some N) (x : List α)
    (hrun : (execOp a.eval o).run P W = .ok (.value (.slice (some ⟨W.heap.size, 0, none⟩) x.length x.length)) (W.alloc (.cells (x.map enc).toArray e)))
    (HB : Below w0.heap.size w0 W) (hm : x.length ≤ 9223372036854775807)
    (h : ∀ (A : Option Addr) (c : Nat) (w1 : World), x.length ≤ c → (Kd.scalar enc h1).C w1 A x.length x → Below w0.heap.size w0 w1 → wpList P ops Q rest (a.put o.dst (.slice A x.length c)) w1) :
    wpList P ops Q (o :: rest) a W := by
  refine Kd.R_lit (Kd.scalar enc h1) W.heap.size e hgd hd (w0 := W) (xs := x) (inner := x.map enc) (ok := fun _ => True) (okp := fun _ => False) hrun (reps_scalar x) (fun _ hk => hk.elim) trivial (Below.refl _ _) (Nat.le_refl _) hm ?_
  intro v1 w1 hr hb hg hat
  obtain ⟨A, c, rfl, hc, hC⟩ := Kd.R_reads hr
  exact h A c w1 hc hC (below_step HB hb)
/-- A literal of strings that goes into a literal of such. -/
theorem lit_held (hgd : o.guard = none) {N : Tmp} (hd : o.dst = some N) (x : List ByteArray) {xs : List (List ByteArray)} {vs : List Value}
    (hrun : (execOp a.eval o).run P W = .ok (.value (.slice (some ⟨W.heap.size, 0, none⟩) x.length x.length)) (W.alloc (.cells (x.map Value.string).toArray 9)))
    (HB : Below w0.heap.size w0 W) (HH : Reps (Kd.FK (Kd.slice 9 Kd.string) W (fun k => w0.heap.size ≤ k)) 1 xs vs) (hm : x.length ≤ 9223372036854775807)
    (h : ∀ (A : Option Addr) (n c : Nat) (w1 : World), Below w0.heap.size w0 w1 → Reps (Kd.FK (Kd.slice 9 Kd.string) w1 (fun k => w0.heap.size ≤ k)) 1 (xs ++ [x]) (vs ++ [.slice A n c]) → wpList P ops Q rest (a.put o.dst (.slice A n c)) w1) :
    wpList P ops Q (o :: rest) a W := by
  refine Kd.R_lit Kd.string W.heap.size 9 hgd hd (w0 := W) (xs := x) (inner := x.map Value.string) (ok := fun k => w0.heap.size ≤ k) (okp := fun _ => False) hrun (reps_scalar x) (fun _ hk => hk.elim) (below_size HB) (Below.refl _ _) (Nat.le_refl _) hm ?_
  intro v1 w1 hr hb hg hat
  obtain ⟨A, c, rfl, _, _⟩ := Kd.R_reads hr
  refine h A x.length c w1 (below_step HB hb) (Reps.snoc (HH.imp_ (fun _ _ hp => Kd.FK_below hp hb)) (Kd.FK_slice_mk ?_ (Kd.R_F hr)) rfl)
  exact (Kd.R_reads' hr).2.1
end
end Go.Proofs.YtpijiohiohiilaaDoor.D
