/- What all rows of this seat share: from what a row lists of a package variable to the fact that the walks ask; a world for the witness. -/
import Derived.Test.YtpijiohiohiilaaDoorLaid
import Derived.Test.YtpijiohiohiilaaDoorCards
import Derived.Test.YtpijiohiohiilaaDoorTie
import Derived.WalkKit
import Derived.ProofKit
import Derived.OpenShut
import Derived.ShutString
import Derived.Deep.DeepHandedRow
import Derived.Lib.LaidTab
import Derived.Lib.SmallJoins
namespace Go.Proofs.YtpijiohiohiilaaDoor.LaidRow
open Go.ChangeShapes Go.WideShapes Go.ChangeAt Go.RowKit Go.Joins Go.Deep
set_option linter.unusedVariables false
set_option maxRecDepth 100000
theorem own : ownKnob Tryd.prog.godebug = none := by kernel_rfl
theorem laidOut : laidOutB Tryd.prog = true := by kernel_rfl
theorem gN : Tryd.prog.globalNamed "quoin/insn.names" = some 0 := by kernel_rfl
theorem gB : Tryd.prog.globalNamed "quoin/enc.bases" = some 1 := by kernel_rfl
theorem tN : (Tryd.prog.globals[0]?).map (·.type) = some 84 := by kernel_rfl
theorem tB : (Tryd.prog.globals[1]?).map (·.type) = some 87 := by kernel_rfl
theorem c84 : Tryd.prog.cellsOf 84 = 94 := by kernel_rfl
theorem c87 : Tryd.prog.cellsOf 87 = 94 := by kernel_rfl
theorem c9 : Tryd.prog.cellsOf 9 = 1 := by kernel_rfl
theorem c34 : Tryd.prog.cellsOf 34 = 1 := by kernel_rfl
theorem c33 : Tryd.prog.cellsOf 33 = 5 := by kernel_rfl
def dataS {H : Type} (bs : List (List UInt8)) : DataW H := .agg (bs.map fun b => .lit (.string b))
theorem cells_of_tabS {H : Type} {enc : TypeId × Value → H} {P : Program} {w : World} {base : Nat} {sp : Nat → Bool} {held : Bool} {fuel : Nat} {t e : TypeId} {n : Nat} {cs : List Value} {bs : List (List UInt8)} {p : List MemPlace}
    (ht : P.underlying t = some (.array n e)) (he : P.underlying e = some .string) (hce : P.cellsOf e = 1) (hct : P.cellsOf t = n)
    (h : DataW.trod enc P w base sp held fuel t cs = some (dataS bs, p)) : cs = bs.map fun b => Value.string ⟨b.toArray⟩ := by
  cases fuel with
  | zero => simp [DataW.trod] at h
  | succ fuel =>
    simp only [DataW.trod, ht, hce, hct, Nat.mul_one] at h
    split at h
    · rename_i hl
      obtain ⟨xs, hm, hx⟩ := Option.map_eq_some_iff.1 h
      have hxs : xs.map (·.1) = bs.map fun b => (DataW.lit (.string b) : DataW H) := by
        have := congrArg Prod.fst hx
        simpa [dataS] using this
      have hxl : xs.length = n := by simpa using Lib.mapM_length hm
      have hzl : bs.length = n := by
        have := congrArg List.length hxs
        simp at this
        omega
      apply List.ext_getElem?
      intro i
      by_cases hi : i < n
      · obtain ⟨b, hb, hf⟩ := Lib.mapM_at hm i i (by simp [hi])
        obtain ⟨s, hc, hs⟩ := DataW.trod_string he hf
        have h1 : cs[i]? = some (.string s) := by
          have := congrArg (·[0]?) hc
          simpa [List.getElem?_take, List.getElem?_drop] using this
        have h2 : (xs.map (·.1))[i]? = some b.1 := by simp [hb]
        rw [hxs] at h2
        simp only [List.getElem?_map, Option.map_eq_some_iff] at h2
        obtain ⟨b', hb', e'⟩ := h2
        have e2 : b.1 = DataW.lit (.string s.data.toList) := by first | exact congrArg Prod.fst hs | exact congrArg Prod.fst hs.1 | (rw [hs])
        rw [e2] at e'
        simp only [DataW.lit.injEq, Lit.string.injEq] at e'
        rw [h1, List.getElem?_map, hb', Option.map_some, e']
      · rw [List.getElem?_eq_none (by omega), List.getElem?_eq_none (by simp; omega)]
    · cases h
theorem laidN_of {W : World} (h : laidMetH Tryd.prog [("quoin/insn.names", Rows.laid_quoin_insn_names)] W) : D.LaidN W := by
  obtain ⟨ps, ⟨g', t', cs, fuel, p, q, hg', ht', hvar, hd, _, _⟩, _⟩ := h
  obtain rfl := Option.some.inj (gN.symm.trans hg')
  obtain rfl := Option.some.inj (tN.symm.trans ht')
  have hc := cells_of_tabS (bs := D.namesB) Tryd.underlying84 Tryd.underlying9 c9 c84 hd
  refine ⟨fun i hi => ?_⟩
  have := World.var?_cell gN hvar i
  refine this.trans ?_
  rw [← Array.getElem?_toList, hc, List.getElem?_map]
  unfold D.namesL
  rw [List.getD_eq_getElem?_getD, List.getElem?_map]
  have hl : i < D.namesB.length := hi
  rw [List.getElem?_eq_getElem hl]; rfl
theorem laidB_of {W : World} (h : laidMetH Tryd.prog [("quoin/enc.bases", Rows.laid_quoin_enc_bases)] W) : D.LaidB W := by
  have hT : Lib.TabIs Tryd.prog W "quoin/enc.bases" .u32 D.basesL := Lib.tabIs_of_head (rest := []) gB tB Tryd.underlying87 Tryd.underlying34 c34 c87 h
  exact ⟨fun i hi => hT.cell gB i hi⟩
/-- Worlds for the witness: the settled one, the table holding what its initialiser lays. -/
noncomputable def worldN (os : Os) : World :=
  { World.holding Tryd.prog os ⟨#[], #[], []⟩ with heap := (World.holding Tryd.prog os ⟨#[], #[], []⟩).heap.modify 0 fun
      | .cells _ t frozen => .cells (D.namesB.map fun b => Value.string ⟨b.toArray⟩).toArray t frozen
      | o => o }
noncomputable def worldB (os : Os) : World :=
  { World.holding Tryd.prog os ⟨#[], #[], []⟩ with heap := (World.holding Tryd.prog os ⟨#[], #[], []⟩).heap.modify 1 fun
      | .cells _ t frozen => .cells (D.basesL.map fun b => Value.int .u32 b).toArray t frozen
      | o => o }
section
variable {H : Type} {enc : TypeId × Value → H} {P : Program} {w : World} {base : Nat} {spare : Nat → Bool} {held : Bool}
theorem open_agg5 {r : Reach} {b0 : Nat} {t : TypeId} {f0 f1 f2 f3 f4 : Field} {v : Value} {d : DataW H} {p : List MemPlace} (hs : P.underlying t = some (.struct #[f0, f1, f2, f3, f4])) (hone : oneCellFields P #[f0, f1, f2, f3, f4] = true) (hC : P.cellsOf t = 5)
    (hv : Value.okWide P w r b0 t v) (h : DataW.Trod enc P w base spare held t v d p) :
    ∃ (v0 v1 v2 v3 v4 : Value) (y0 y1 y2 y3 y4 : DataW H × List MemPlace) (n : Nat), v = .agg #[v0, v1, v2, v3, v4] ∧ d = .agg [y0.1, y1.1, y2.1, y3.1, y4.1] ∧ p = y0.2 ++ (y1.2 ++ (y2.2 ++ (y3.2 ++ y4.2))) ∧
      DataW.trod enc P w base spare held n f0.type [v0] = some y0 ∧ DataW.trod enc P w base spare held n f1.type [v1] = some y1 ∧ DataW.trod enc P w base spare held n f2.type [v2] = some y2 ∧ DataW.trod enc P w base spare held n f3.type [v3] = some y3 ∧ DataW.trod enc P w base spare held n f4.type [v4] = some y4 := by
  obtain ⟨cs, rfl, hsz⟩ := okWide_struct hs hv
  obtain ⟨l⟩ := cs
  match l, hsz.trans hC with
  | [c0, c1, c2, c3, c4], _ =>
    obtain ⟨fuel, hf⟩ := h
    obtain ⟨xs, n, _, hx, _, hlen, hg⟩ := DataW.trod_struct hs hf
    obtain ⟨o0, k0⟩ := hone_of hone 0 f0 rfl
    obtain ⟨o1, k1⟩ := hone_of hone 1 f1 rfl
    obtain ⟨o2, k2⟩ := hone_of hone 2 f2 rfl
    obtain ⟨o3, k3⟩ := hone_of hone 3 f3 rfl
    obtain ⟨o4, k4⟩ := hone_of hone 4 f4 rfl
    match xs, hlen with
    | [y0, y1, y2, y3, y4], _ =>
      simp only [Prod.mk.injEq] at hx
      exact ⟨c0, c1, c2, c3, c4, y0, y1, y2, y3, y4, n, rfl, by simpa using hx.1, by simpa using hx.2, by simpa [Value.cells, o0, k0] using hg 0 f0 rfl, by simpa [Value.cells, o1, k1] using hg 1 f1 rfl, by simpa [Value.cells, o2, k2] using hg 2 f2 rfl, by simpa [Value.cells, o3, k3] using hg 3 f3 rfl, by simpa [Value.cells, o4, k4] using hg 4 f4 rfl⟩
end
/-- An instruction, opened: its five numbers, each within its kind. -/
theorem open_insn {H : Type} {enc : TypeId × Value → H} {w : World} {base b0 : Nat} {spare : Nat → Bool} {held : Bool} {r : Reach} {v : Value} {d : DataW H} {p : List MemPlace}
    (hv : Value.okWide Tryd.prog w r b0 33 v) (h : DataW.Trod enc Tryd.prog w base spare held 33 v d p) :
    ∃ a b c e f : Int, v = .agg #[.int .u8 a, .int .i64 b, .int .i64 c, .int .i64 e, .int .i64 f] ∧ (Lit.int .u8 a).wf = true ∧ (Lit.int .i64 b).wf = true ∧ (Lit.int .i64 c).wf = true ∧ (Lit.int .i64 e).wf = true ∧ (Lit.int .i64 f).wf = true := by
  obtain ⟨v0, v1, v2, v3, v4, y0, y1, y2, y3, y4, n, rfl, _, _, t0, t1, t2, t3, t4⟩ := open_agg5 Tryd.underlying33 (by kernel_rfl) c33 hv h
  obtain ⟨a, e0, _, wa⟩ := DataW.trod_int Tryd.underlying5 t0
  obtain ⟨b, e1, _, wb⟩ := DataW.trod_int Tryd.underlying3 t1
  obtain ⟨c, e2, _, wc⟩ := DataW.trod_int Tryd.underlying3 t2
  obtain ⟨e, e3, _, we⟩ := DataW.trod_int Tryd.underlying3 t3
  obtain ⟨f, e4, _, wf⟩ := DataW.trod_int Tryd.underlying3 t4
  simp at e0 e1 e2 e3 e4
  subst e0 e1 e2 e3 e4
  exact ⟨a, b, c, e, f, rfl, wa, wb, wc, we, wf⟩
end Go.Proofs.YtpijiohiohiilaaDoor.LaidRow
