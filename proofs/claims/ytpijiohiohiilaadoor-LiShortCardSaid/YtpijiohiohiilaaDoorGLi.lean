/- li.Steps, and li.steps, which calls itself: it answers what its Lean function tells, where insn.names holds its names. -/
import Derived.Test.YtpijiohiohiilaaDoorGLiA
import Derived.WalkMore
namespace Go.Proofs.YtpijiohiohiilaaDoor.D
open Go.RowKit Go.Proofs.YtpijiohiohiilaaDoorW.PrintWords Go.Proofs.YtpijiohiohiilaaDoorW.PrintLast Go.Proofs.YtpijiohiohiilaaDoorW.PrintMore
attribute [local go_sem] max2_int min2_int max_two min_two max_three min_three max_four min_four
set_option linter.unusedVariables false
set_option linter.unusedSimpArgs false
/-- The high part's last places that are zero are cut off, and counted. -/
def li_top.l0 : Nat → Int → Int → Option (Int × Int)
  | 0, _, _ => none
  | k + 1, t, s => if Go.bits .and .u64 t 1 = 0 then li_top.l0 k (t / 2) (wrap64 (s + 1)) else some (t, s)
theorem li_top.mono : ∀ t s k, LeO (li_top.l0 k t s) (li_top.l0 (k + 1) t s) := by
  intro t s k
  induction k generalizing t s with
  | zero => intro r h; simp [li_top.l0] at h
  | succ k ih =>
    unfold li_top.l0
    exact LeO.ite (ih _ _) (LeO.refl _)
def li_steps.f : Nat → Int → Int → Option (List S33)
  | 0, _, _ => none
  | k + 1, rd, n => (li_Parts.f n).bind fun p => (bits_Fits.f n 12).bind fun b1 => if b1 = true then some [(⟨22, rd, 0, 0, n⟩ : S33)] else
      ((bits_Fits.f n 32).bind fun b2 => if b2 = true then (if p.2 = 0 then some [(⟨1, rd, 0, 0, Go.bits .and .i64 p.1 1048575⟩ : S33)] else some [(⟨1, rd, 0, 0, Go.bits .and .i64 p.1 1048575⟩ : S33), (⟨41, rd, rd, 0, p.2⟩ : S33)]) else
        ((li_top.l0 k ((p.1 % 18446744073709551616 * 4096 % 18446744073709551616) / 4096) 0).bind fun q => if 0 ≤ wrap64 (12 + q.2) then
          ((li_steps.f k rd (shr .i64 (shl .i64 (wrap64 q.1) (wrap64 (12 + q.2))) (wrap64 (12 + q.2)))).bind fun l => if l.length < 900 then
            (if p.2 = 0 then some (l ++ [(⟨28, rd, rd, 0, wrap64 (12 + q.2)⟩ : S33)]) else some ((l ++ [(⟨28, rd, rd, 0, wrap64 (12 + q.2)⟩ : S33)]) ++ [(⟨22, rd, rd, 0, p.2⟩ : S33)])) else none) else none))
theorem li_steps.mono : ∀ rd n k, LeO (li_steps.f k rd n) (li_steps.f (k + 1) rd n) := by
  intro rd n k
  induction k generalizing rd n with
  | zero => intro r h; simp [li_steps.f] at h
  | succ k ih =>
    unfold li_steps.f
    refine LeO.bind (LeO.refl _) fun _ => ?_
    refine LeO.bind (LeO.refl _) fun _ => ?_
    refine LeO.ite (LeO.refl _) ?_
    refine LeO.bind (LeO.refl _) fun _ => ?_
    refine LeO.ite (LeO.refl _) ?_
    refine LeO.bind (li_top.mono _ _ _) fun _ => ?_
    refine LeO.ite ?_ (LeO.refl _)
    exact LeO.bind (ih _ _) fun _ => LeO.refl _
def li_Steps.f (k : Nat) (rd n : Int) : Option (List S33 × Int) := if rd < 0 then some ([], 2) else (if rd > 31 then some ([], 2) else ((li_steps.f k rd n).bind fun l => some (l, 0)))
theorem li_Steps.mono : ∀ rd n k, LeO (li_Steps.f k rd n) (li_Steps.f (k + 1) rd n) := by
  intro rd n k
  unfold li_Steps.f
  exact LeO.ite (LeO.refl _) (LeO.ite (LeO.refl _) (LeO.bind (li_steps.mono _ _ _) fun _ => LeO.refl _))
theorem of_addi : insn_Of.f 200 (⟨#[97, 100, 100, 105]⟩ : ByteArray) = some (22, 0) := by decide +kernel
theorem of_lui : insn_Of.f 200 (⟨#[108, 117, 105]⟩ : ByteArray) = some (1, 0) := by decide +kernel
theorem of_addiw : insn_Of.f 200 (⟨#[97, 100, 100, 105, 119]⟩ : ByteArray) = some (41, 0) := by decide +kernel
theorem of_slli : insn_Of.f 200 (⟨#[115, 108, 108, 105]⟩ : ByteArray) = some (28, 0) := by decide +kernel
/-- A call of a closure, in a plain region. -/
theorem goesC_ {P : Program} {ops : Array Oper} {Q : Exit → Act → World → Prop} {rest : List Oper} {oi : Oper} {a : Act} {w : World} (N : Option Tmp) (hd : oi.dst = N) (hg : oi.guard = none) {f : FuncId} {fn : Func} {t : Tmp} {xs : Array Operand} {ts : Array TypeId} (cap : Array Value) (hf : P.funcs[f]? = some fn) (hname : (fn.name == "runtime.NumGoroutine") = false) (hb : fn.body.isSome = true) (args : Array Value)
    (hop : oi.op = .call { callee := .value (.tmp t), args := xs, argTypes := ts }) (hc : a.tmps.getD t undef = .func (.func f) #[] cap) (hargs : xs.map a.eval ++ cap = args)
    (h : Calls P f args w fun e w' => ∃ v, e = .returned v ∧ wpList P ops Q rest (a.put N v) w') : wpList P ops Q (oi :: rest) a w := by
  refine wpList_plain hg fun K hK => ?_
  have he := enters_ hf hname hb args w
  have hrun : (execOp a.eval oi).run P w = .ok (.enter f args) w := by
    unfold execOp
    simp only [hop]
    simp [resolve, Deferred.ofValue, invoke, Act.eval, hc, ← hargs] at he ⊢
    exact he
  unfold Oper.wp
  rw [hrun, Oper.upon_enter]
  refine h.mono fun e w'' hh => ?_
  obtain ⟨v, rfl, hk⟩ := hh
  subst hd
  exact hK _ _ hk
set_option maxHeartbeats 3200000 in
set_option maxRecDepth 100000 in
theorem li_steps.calls (k : Nat) : ∀ (rd n : Int) (r : List S33) (w : World) (hN : LaidN w) (h : li_steps.f k rd n = some r),
    Calls Tryd.prog 62 #[.slice none 0 0, .int .i64 rd, .int .i64 n] w fun e w' => ∃ v0_ : Value, e = .returned v0_ ∧ Kd.R k33 33 w' w.heap.size (fun _ => True) v0_ r ∧ Below w.heap.size w w' := by
  induction k with
  | zero => intro rd n r w hN h; exact absurd h (by simp [li_steps.f])
  | succ k ih =>
    intro rd n r w hN h
    simp only [li_steps.f] at h
    obtain ⟨⟨hi, lo⟩, A1, H⟩ := Option.bind_eq_some_iff.mp h
    obtain ⟨b1, A2, H⟩ := Option.bind_eq_some_iff.mp H
    have A1 := Aside0.mk A1
    have A2 := Aside0.mk A2
    have HLN := Aside0.mk hN
    simp only [] at H
    have H := Aside0.mk H
    have HI := Aside0.mk ih
    clear h hN ih
    have hmf : ∀ (fn : Fn) (first cap : Array Value) (w : World), (Instr.makeFunc fn first cap).run Tryd.prog w = .ok (.func fn first cap) w := fun _ _ _ _ => rfl
    go_enter Tryd.func62, Tryd.ntmps62
    have F0L := Aside0.mk (show ((w.alloc (.cells #[.slice none 0 0] 46 (0, 0))).alloc (.cells #[.int .i64 rd] 3 (0, 0))).heap[w.heap.size]? = some (.cells #[.slice none 0 0] 46 (0, 0)) from blk_alloc (blk_new w _) _)
    have F0R := Aside0.mk (show ((w.alloc (.cells #[.slice none 0 0] 46 (0, 0))).alloc (.cells #[.int .i64 rd] 3 (0, 0))).heap[w.heap.size + 1]? = some (.cells #[.int .i64 rd] 3 (0, 0)) from by have := blk_new (w.alloc (.cells #[.slice none 0 0] 46 (0, 0))) (.cells #[.int .i64 rd] 3 (0, 0)); simpa using this)
    have B0 := Aside0.mk (below_alloc (below_alloc (Below.refl _ w) (.cells #[.slice none 0 0] 46 (0, 0))) (.cells #[.int .i64 rd] 3 (0, 0)))
    go_upto_region 3 with (first | ((with_reducible refine gate_callee (f := 32) rfl ?_); refine goesL_ (some 14) rfl rfl Tryd.func32 (by kernel_rfl) rfl #[.int .i64 n] rfl (by (try simp only [List.map_toArray, List.map_cons, List.map_nil]); first | done | rfl) ?_; (with_reducible refine (li_Parts.calls n hi lo _ A1.out).mono ?_); rintro e w' ⟨rfl, ⟨nd, rfl⟩⟩; refine ⟨_, rfl, ?_⟩))
    (try simp only [Act.put, List.setIfInBounds_toArray, List.set_cons_zero, List.set_cons_succ])
    by_cases hb1 : b1 = true
    · subst hb1
      have e := Option.some.inj (H.out.symm.trans (if_pos rfl)) |>.symm
      subst e
      clear H
      go_wp2_with (first | ((with_reducible refine gate_callee (f := 78) rfl ?_); refine goesL_ (some 20) rfl rfl Tryd.func78 (by kernel_rfl) rfl #[.int .i64 n, .int .i64 12] rfl (by (try simp only [List.map_toArray, List.map_cons, List.map_nil]); first | done | rfl) ?_; (with_reducible refine (bits_Fits.calls n 12 _ _ A2.out).mono ?_); rintro e w' ⟨rfl, ⟨nd12, rfl⟩⟩; refine ⟨_, rfl, ?_⟩) | ((with_reducible refine gate_dst (N := 23) rfl ?_); refine goesC_ (some 23) rfl rfl (t := 21) #[.pointer (some ⟨w.heap.size, 0, none⟩), .pointer (some ⟨w.heap.size + 1, 0, none⟩)] Tryd.func79 (by kernel_rfl) rfl #[.string (⟨#[97, 100, 100, 105]⟩ : ByteArray), .int .i64 0, .int .i64 n, .pointer (some ⟨w.heap.size, 0, none⟩), .pointer (some ⟨w.heap.size + 1, 0, none⟩)] rfl rfl (by first | rfl | (simp [Act.eval]; done) | (simp [Act.eval]; rfl)) ?_; (with_reducible refine (li_add.calls _ 22 0 200 of_addi 0 n rd w.heap.size (w.heap.size + 1) (.slice none 0 0) [] w _ ?n1 ?n2 ?n3 (Nat.le_refl _) (by omega) ?n4 ?n5 ?n6).mono ?_); (case n1 => exact LaidN.below HLN.out (pw_below_drewN B0.out _)); (case n2 => exact blk_drewN F0L.out _); (case n3 => exact blk_drewN F0R.out _); (case n4 => exact Kd.R_nil _ _ _ _ _); (case n5 => exact pw_below_drewN B0.out _); (case n6 => decide); rintro e w2 ⟨rfl, v2, fl, fr, ho, hb⟩; refine ⟨_, rfl, ?_⟩; have FL2 := Aside0.mk fl; have FR2 := Aside0.mk fr; have HO2 := Aside0.mk ho; have HB2 := Aside0.mk hb; have q2 : w2.cell? ⟨w.heap.size, 0, none⟩ = some v2 := (blk_cell fl 0).trans rfl; have p2 : w2.cell? ⟨w.heap.size + 1, 0, none⟩ = some (.int .i64 rd) := (blk_cell fr 0).trans rfl; clear fl fr ho hb))
      go_ret
      exact ⟨_, rfl, Kd.R_mono HO2.out (fun _ _ => trivial), HB2.out⟩
    · have hb1 : b1 = false := by simpa using hb1
      subst hb1
      obtain ⟨b2, A3, H⟩ := Option.bind_eq_some_iff.mp (H.out.symm.trans (if_neg (by decide)) |>.symm)
      have A3 := Aside0.mk A3
      by_cases hb2 : b2 = true
      · subst hb2
        rw [if_pos rfl] at H
        by_cases c1 : lo = 0
        · rw [if_pos c1] at H
          have e := Option.some.inj H
          subst e
          clear H
          have c1b : (lo != 0) = false := bne_eq_false_iff_eq.mpr c1
          clear c1
          go_wp2_with (first | ((with_reducible refine gate_callee (f := 78) rfl ?_); refine goesL_ (some 20) rfl rfl Tryd.func78 (by kernel_rfl) rfl #[.int .i64 n, .int .i64 12] rfl (by (try simp only [List.map_toArray, List.map_cons, List.map_nil]); first | done | rfl) ?_; (with_reducible refine (bits_Fits.calls n 12 _ _ A2.out).mono ?_); rintro e w' ⟨rfl, ⟨nd12, rfl⟩⟩; refine ⟨_, rfl, ?_⟩) | ((with_reducible refine gate_callee (f := 78) rfl ?_); refine goesL_ (some 27) rfl rfl Tryd.func78 (by kernel_rfl) rfl #[.int .i64 n, .int .i64 32] rfl (by (try simp only [List.map_toArray, List.map_cons, List.map_nil]); first | done | rfl) ?_; (with_reducible refine (bits_Fits.calls n 32 _ _ A3.out).mono ?_); rintro e w' ⟨rfl, ⟨nd32, rfl⟩⟩; refine ⟨_, rfl, ?_⟩) | ((with_reducible refine gate_dst (N := 31) rfl ?_); refine goesC_ (some 31) rfl rfl (t := 28) #[.pointer (some ⟨w.heap.size, 0, none⟩), .pointer (some ⟨w.heap.size + 1, 0, none⟩)] Tryd.func79 (by kernel_rfl) rfl #[.string (⟨#[108, 117, 105]⟩ : ByteArray), .int .i64 0, .int .i64 (Go.bits .and .i64 hi 1048575), .pointer (some ⟨w.heap.size, 0, none⟩), .pointer (some ⟨w.heap.size + 1, 0, none⟩)] rfl rfl (by first | rfl | (simp [Act.eval]; done) | (simp [Act.eval]; rfl)) ?_; (with_reducible refine (li_add.calls _ 1 0 200 of_lui 0 (Go.bits .and .i64 hi 1048575) rd w.heap.size (w.heap.size + 1) (.slice none 0 0) [] w _ ?n1 ?n2 ?n3 (Nat.le_refl _) (by omega) ?n4 ?n5 ?n6).mono ?_); (case n1 => exact LaidN.below HLN.out (pw_below_drewN B0.out _)); (case n2 => exact blk_drewN F0L.out _); (case n3 => exact blk_drewN F0R.out _); (case n4 => exact Kd.R_nil _ _ _ _ _); (case n5 => exact pw_below_drewN B0.out _); (case n6 => decide); rintro e w2 ⟨rfl, v2, fl, fr, ho, hb⟩; refine ⟨_, rfl, ?_⟩; have FL2 := Aside0.mk fl; have FR2 := Aside0.mk fr; have HO2 := Aside0.mk ho; have HB2 := Aside0.mk hb; have q2 : w2.cell? ⟨w.heap.size, 0, none⟩ = some v2 := (blk_cell fl 0).trans rfl; have p2 : w2.cell? ⟨w.heap.size + 1, 0, none⟩ = some (.int .i64 rd) := (blk_cell fr 0).trans rfl; clear fl fr ho hb))
          go_ret
          exact ⟨_, rfl, Kd.R_mono HO2.out (fun _ _ => trivial), HB2.out⟩
        · rw [if_neg c1] at H
          have e := Option.some.inj H
          subst e
          clear H
          have c1b : (lo != 0) = true := bne_iff_ne.mpr c1
          clear c1
          go_wp2_with (first | ((with_reducible refine gate_callee (f := 78) rfl ?_); refine goesL_ (some 20) rfl rfl Tryd.func78 (by kernel_rfl) rfl #[.int .i64 n, .int .i64 12] rfl (by (try simp only [List.map_toArray, List.map_cons, List.map_nil]); first | done | rfl) ?_; (with_reducible refine (bits_Fits.calls n 12 _ _ A2.out).mono ?_); rintro e w' ⟨rfl, ⟨nd12, rfl⟩⟩; refine ⟨_, rfl, ?_⟩) | ((with_reducible refine gate_callee (f := 78) rfl ?_); refine goesL_ (some 27) rfl rfl Tryd.func78 (by kernel_rfl) rfl #[.int .i64 n, .int .i64 32] rfl (by (try simp only [List.map_toArray, List.map_cons, List.map_nil]); first | done | rfl) ?_; (with_reducible refine (bits_Fits.calls n 32 _ _ A3.out).mono ?_); rintro e w' ⟨rfl, ⟨nd32, rfl⟩⟩; refine ⟨_, rfl, ?_⟩) | ((with_reducible refine gate_dst (N := 31) rfl ?_); refine goesC_ (some 31) rfl rfl (t := 28) #[.pointer (some ⟨w.heap.size, 0, none⟩), .pointer (some ⟨w.heap.size + 1, 0, none⟩)] Tryd.func79 (by kernel_rfl) rfl #[.string (⟨#[108, 117, 105]⟩ : ByteArray), .int .i64 0, .int .i64 (Go.bits .and .i64 hi 1048575), .pointer (some ⟨w.heap.size, 0, none⟩), .pointer (some ⟨w.heap.size + 1, 0, none⟩)] rfl rfl (by first | rfl | (simp [Act.eval]; done) | (simp [Act.eval]; rfl)) ?_; (with_reducible refine (li_add.calls _ 1 0 200 of_lui 0 (Go.bits .and .i64 hi 1048575) rd w.heap.size (w.heap.size + 1) (.slice none 0 0) [] w _ ?n1 ?n2 ?n3 (Nat.le_refl _) (by omega) ?n4 ?n5 ?n6).mono ?_); (case n1 => exact LaidN.below HLN.out (pw_below_drewN B0.out _)); (case n2 => exact blk_drewN F0L.out _); (case n3 => exact blk_drewN F0R.out _); (case n4 => exact Kd.R_nil _ _ _ _ _); (case n5 => exact pw_below_drewN B0.out _); (case n6 => decide); rintro e w2 ⟨rfl, v2, fl, fr, ho, hb⟩; refine ⟨_, rfl, ?_⟩; have FL2 := Aside0.mk fl; have FR2 := Aside0.mk fr; have HO2 := Aside0.mk ho; have HB2 := Aside0.mk hb; have q2 : w2.cell? ⟨w.heap.size, 0, none⟩ = some v2 := (blk_cell fl 0).trans rfl; have p2 : w2.cell? ⟨w.heap.size + 1, 0, none⟩ = some (.int .i64 rd) := (blk_cell fr 0).trans rfl; clear fl fr ho hb) | ((with_reducible refine gate_dst (N := 37) rfl ?_); refine goesC_ (some 37) rfl rfl (t := 34) #[.pointer (some ⟨w.heap.size, 0, none⟩), .pointer (some ⟨w.heap.size + 1, 0, none⟩)] Tryd.func79 (by kernel_rfl) rfl #[.string (⟨#[97, 100, 100, 105, 119]⟩ : ByteArray), .int .i64 rd, .int .i64 lo, .pointer (some ⟨w.heap.size, 0, none⟩), .pointer (some ⟨w.heap.size + 1, 0, none⟩)] rfl rfl (by first | rfl | (simp [Act.eval]; done) | (simp [Act.eval]; rfl)) ?_; (with_reducible refine (li_add.calls _ 41 0 200 of_addiw rd lo rd w.heap.size (w.heap.size + 1) v2 ([] ++ [(⟨1, rd, 0, 0, Go.bits .and .i64 hi 1048575⟩ : S33)]) w _ ?n1 ?n2 ?n3 (Nat.le_refl _) (by omega) ?n4 ?n5 ?n6).mono ?_); (case n1 => exact LaidN.below HLN.out ((by first | exact HB2.out | exact pw_below_drewN HB2.out _))); (case n2 => exact (by first | exact FL2.out | exact blk_drewN FL2.out _)); (case n3 => exact (by first | exact FR2.out | exact blk_drewN FR2.out _)); (case n4 => exact (by first | exact HO2.out | exact Kd.R_drewN HO2.out _)); (case n5 => exact (by first | exact HB2.out | exact pw_below_drewN HB2.out _)); (case n6 => simp); rintro e w3 ⟨rfl, v3, fl, fr, ho, hb⟩; refine ⟨_, rfl, ?_⟩; have FL3 := Aside0.mk fl; have FR3 := Aside0.mk fr; have HO3 := Aside0.mk ho; have HB3 := Aside0.mk hb; have q3 : w3.cell? ⟨w.heap.size, 0, none⟩ = some v3 := (blk_cell fl 0).trans rfl; have p3 : w3.cell? ⟨w.heap.size + 1, 0, none⟩ = some (.int .i64 rd) := (blk_cell fr 0).trans rfl; clear fl fr ho hb))
          go_ret
          exact ⟨_, rfl, Kd.R_mono HO3.out (fun _ _ => trivial), HB3.out⟩
      · have hb2 : b2 = false := by simpa using hb2
        subst hb2
        rw [if_neg (by decide)] at H
        obtain ⟨⟨tq, sq⟩, A4, H⟩ := Option.bind_eq_some_iff.mp H
        have A4 := Aside0.mk A4
        simp only [] at H
        have H := Aside0.mk H
        go_wp2_with (first | ((with_reducible refine gate_callee (f := 78) rfl ?_); refine goesL_ (some 20) rfl rfl Tryd.func78 (by kernel_rfl) rfl #[.int .i64 n, .int .i64 12] rfl (by (try simp only [List.map_toArray, List.map_cons, List.map_nil]); first | done | rfl) ?_; (with_reducible refine (bits_Fits.calls n 12 _ _ A2.out).mono ?_); rintro e w' ⟨rfl, ⟨nd12, rfl⟩⟩; refine ⟨_, rfl, ?_⟩) | ((with_reducible refine gate_callee (f := 78) rfl ?_); refine goesL_ (some 27) rfl rfl Tryd.func78 (by kernel_rfl) rfl #[.int .i64 n, .int .i64 32] rfl (by (try simp only [List.map_toArray, List.map_cons, List.map_nil]); first | done | rfl) ?_; (with_reducible refine (bits_Fits.calls n 32 _ _ A3.out).mono ?_); rintro e w' ⟨rfl, ⟨nd32, rfl⟩⟩; refine ⟨_, rfl, ?_⟩))
        go_loopg [10, 11] k (fun kq v10 v11 wr => ∃ t s : Int, v10 = .int .u64 t ∧ v11 = .int .i64 s ∧ Aside0 (li_top.l0 kq t s = some (tq, sq)) ∧ Aside0 (kq ≤ k) ∧ Aside0 (wr.heap[w.heap.size]? = some (.cells #[.slice none 0 0] 46 (0, 0))) ∧ Aside0 (wr.heap[w.heap.size + 1]? = some (.cells #[.int .i64 rd] 3 (0, 0))) ∧ Aside0 (Below w.heap.size w wr))
        case atStart => exact ⟨_, _, rfl, rfl, A4, ⟨Nat.le_refl _⟩, ⟨blk_drewN F0L.out _⟩, ⟨blk_drewN F0R.out _⟩, ⟨pw_below_drewN B0.out _⟩⟩
        case round =>
          clear A4 F0L F0R B0 A1 A2 A3
          obtain ⟨t, s, rfl, rfl, HA, HK1, FLr, FRr, HBr⟩ := hrel
          cases gk with
          | zero => exact absurd HA.out (by simp [li_top.l0])
          | succ k1 =>
            have HA := HA.out
            simp only [li_top.l0] at HA
            by_cases c2 : Go.bits .and .u64 t 1 = 0
            · rw [if_pos c2] at HA
              have c2b : (Go.bits .and .u64 t 1 == 0) = true := beq_iff_eq.mpr c2
              have HA := Aside0.mk HA
              clear c2
              go_wp2
              go_roundg k1
              case measure => have := HK1.out; omega
              case rel => exact ⟨t / 2, wrap64 (s + 1), by first | rfl | go_num, by first | rfl | go_num, HA, ⟨by have := HK1.out; omega⟩, ⟨by first | exact FLr.out | exact blk_drewN FLr.out _⟩, ⟨by first | exact FRr.out | exact blk_drewN FRr.out _⟩, ⟨by first | exact HBr.out | exact pw_below_drewN HBr.out _⟩⟩
            · rw [if_neg c2] at HA
              have c2b : (Go.bits .and .u64 t 1 == 0) = false := beq_eq_false_iff_ne.mpr c2
              clear c2
              have e := Option.some.inj HA
              simp only [Prod.mk.injEq] at e
              obtain ⟨rfl, rfl⟩ := e
              clear HA
              have H := H.out
              by_cases c3 : 0 ≤ wrap64 (12 + s)
              · rw [if_pos c3] at H
                obtain ⟨l, A5, H⟩ := Option.bind_eq_some_iff.mp H
                by_cases c4 : l.length < 900
                · rw [if_pos c4] at H
                  have HLL := Aside0.mk c4
                  clear c4
                  obtain ⟨j, hj⟩ : ∃ j_ : Int, wrap64 (12 + s) = j_ := ⟨_, rfl⟩
                  simp only [hj] at A5 H c3
                  have hjw : IntKind.i64.wrap (12 + s) = j := (i64_w _).trans hj
                  have c3b := eq_true c3
                  have c3c : decide (0 ≤ j) = true := decide_eq_true c3
                  clear c3
                  obtain ⟨y, hy⟩ : ∃ y_ : Int, shl .i64 (wrap64 t) j = y_ := ⟨_, rfl⟩
                  rw [hy] at A5
                  have hy_ : (IntKind.i64.wrap ((wrap64 t) * 2 ^ min (j).toNat 64)) = y := hy
                  have hyz : j ≤ 64 → (IntKind.i64.wrap ((wrap64 t) * 2 ^ (j).toNat)) = y := shl_small hy
                  obtain ⟨z, hz⟩ : ∃ z_ : Int, shr .i64 y j = z_ := ⟨_, rfl⟩
                  rw [hz] at A5
                  have hz_ : (y / 2 ^ min (j).toNat 64) = z := hz
                  have hzz : j ≤ 64 → (y / 2 ^ (j).toNat) = z := shr_small hz
                  have A5 := Aside0.mk A5
                  have H := Aside0.mk H
                  go_upto_region 16 with (fail)
                  (try simp only [Act.put, List.setIfInBounds_toArray, List.set_cons_zero, List.set_cons_succ])
                  refine start_ (n := 12) (S := fun w' => w'.cell? ⟨w.heap.size, 0, none⟩ = some (.slice none 0 0) ∧ w'.cell? ⟨w.heap.size + 1, 0, none⟩ = some (.int .i64 rd)) (ds := [11]) #[false, false, false, false, false, false, false, false, false, false, false, false] (by kernel_rfl) rfl rfl ⟨((blk_cell (blk_drew FLr.out) 0).trans rfl), ((blk_cell (blk_drew FRr.out) 0).trans rfl)⟩ (fun hHeld => ?_)
                  refine pure_ (i := 2) (N := some 52) (v := ?_) (a' := ?_) #[false, false, true, false, false, false, false, false, false, false, false, false] rfl rfl (by kernel_rfl) (fun _ _ _ h => h) (Or.inl ⟨by rfl, ?_⟩) ?_ ?_
                  rotate_left
                  · intro w'
                    go_simp
                    with_reducible rfl
                  rotate_left
                  · simp only [Act.put, List.setIfInBounds_toArray, List.set_cons_zero, List.set_cons_succ, i64_w, i32_w]
                    rfl
                  refine pure_ (i := 3) (N := some 53) (v := ?_) (a' := ?_) #[false, false, true, true, false, false, false, false, false, false, false, false] rfl rfl (by kernel_rfl) (fun _ _ _ h => h) (Or.inl ⟨by rfl, ?_⟩) ?_ ?_
                  rotate_left
                  · intro w'
                    go_simp
                    with_reducible rfl
                  rotate_left
                  · simp only [Act.put, List.setIfInBounds_toArray, List.set_cons_zero, List.set_cons_succ, i64_w, i32_w]
                    rfl
                  refine pure_ (i := 4) (N := some 54) (v := ?_) (a' := ?_) #[false, false, true, true, true, false, false, false, false, false, false, false] rfl rfl (by kernel_rfl) (fun _ _ _ h => h) (Or.inl ⟨by rfl, ?_⟩) ?_ ?_
                  rotate_left
                  · intro w'
                    go_simp
                    with_reducible rfl
                  rotate_left
                  · simp only [Act.put, List.setIfInBounds_toArray, List.set_cons_zero, List.set_cons_succ, i64_w, i32_w]
                    rfl
                  refine pure_ (i := 5) (N := some 55) (v := ?_) (a' := ?_) #[false, false, true, true, true, true, false, false, false, false, false, false] rfl rfl (by kernel_rfl) (fun _ _ _ h => h) (Or.inl ⟨by rfl, ?_⟩) ?_ ?_
                  rotate_left
                  · intro w'
                    go_simp
                    with_reducible rfl
                  rotate_left
                  · simp only [Act.put, List.setIfInBounds_toArray, List.set_cons_zero, List.set_cons_succ, i64_w, i32_w]
                    rfl
                  refine pure_ (i := 6) (N := some 56) (v := ?_) (a' := ?_) #[false, false, true, true, true, true, true, false, false, false, false, false] rfl rfl (by kernel_rfl) (fun _ _ _ h => h) (Or.inl ⟨by rfl, ?_⟩) ?_ ?_
                  rotate_left
                  · intro w'
                    go_simp
                    with_reducible rfl
                  rotate_left
                  · simp only [Act.put, List.setIfInBounds_toArray, List.set_cons_zero, List.set_cons_succ, i64_w, i32_w]
                    rfl
                  refine pure_ (i := 7) (N := some 57) (v := ?_) (a' := ?_) #[false, false, true, true, true, true, true, true, false, false, false, false] rfl rfl (by kernel_rfl) (fun _ _ _ h => h) (Or.inl ⟨by rfl, ?_⟩) ?_ ?_
                  rotate_left
                  · intro w'
                    go_simp
                    with_reducible rfl
                  rotate_left
                  · simp only [Act.put, List.setIfInBounds_toArray, List.set_cons_zero, List.set_cons_succ, i64_w, i32_w]
                    rfl
                  refine pure_ (i := 8) (N := some 58) (v := ?_) (a' := ?_) #[false, false, true, true, true, true, true, true, true, false, false, false] rfl rfl (by kernel_rfl) (fun _ _ _ h => h) (Or.inl ⟨by rfl, ?_⟩) ?_ ?_
                  rotate_left
                  · intro w'
                    go_simp
                    with_reducible rfl
                  rotate_left
                  · simp only [Act.put, List.setIfInBounds_toArray, List.set_cons_zero, List.set_cons_succ, i64_w, i32_w]
                    rfl
                  refine pure_ (i := 9) (N := some 59) (v := ?_) (a' := ?_) #[false, false, true, true, true, true, true, true, true, true, false, false] rfl rfl (by kernel_rfl) (fun _ _ _ h => h) (Or.inl ⟨by rfl, ?_⟩) ?_ ?_
                  rotate_left
                  · intro w'
                    go_simp
                    with_reducible rfl
                  rotate_left
                  · simp only [Act.put, List.setIfInBounds_toArray, List.set_cons_zero, List.set_cons_succ, i64_w, i32_w]
                    rfl
                  refine take_ (i := 0) (N := some 50) (v := ?_) (a' := ?_) #[true, false, true, true, true, true, true, true, true, true, false, false] rfl rfl (by kernel_rfl) (fun _ _ _ h => h) (Or.inl ⟨by rfl, ?_⟩) hHeld ?_ ?_
                  rotate_left
                  · rintro w' ⟨s0, s1⟩
                    go_simp
                    with_reducible rfl
                  rotate_left
                  · simp only [Act.put, List.setIfInBounds_toArray, List.set_cons_zero, List.set_cons_succ, i64_w, i32_w]
                    rfl
                  refine take_ (i := 1) (N := some 51) (v := ?_) (a' := ?_) #[true, true, true, true, true, true, true, true, true, true, false, false] rfl rfl (by kernel_rfl) (fun _ _ _ h => h) (Or.inl ⟨by rfl, ?_⟩) hHeld ?_ ?_
                  rotate_left
                  · rintro w' ⟨s0, s1⟩
                    go_simp
                    with_reducible rfl
                  rotate_left
                  · simp only [Act.put, List.setIfInBounds_toArray, List.set_cons_zero, List.set_cons_succ, i64_w, i32_w]
                    rfl
                  refine one_ (i := 10) (N := some 60) #[true, true, true, true, true, true, true, true, true, true, true, false] rfl rfl (by kernel_rfl) (by decide) (fun K hK => ?_)
                  refine goes_ Tryd.func62 (by kernel_rfl) rfl #[.slice none 0 0, .int .i64 rd, .int .i64 z] (by rfl) rfl rfl (by simp only [List.map_toArray, List.map_cons, List.map_nil]; rfl) ?_
                  with_reducible refine (HI.out rd z l _ (LaidN.below HLN.out (below_drew HBr.out)) A5.out).mono ?_
                  rintro e w5 ⟨v5, rfl, ho5, hb5⟩
                  refine ⟨_, rfl, ?_⟩
                  have FL5 := Aside0.mk (blk_below (blk_drew FLr.out) hb5)
                  have FR5 := Aside0.mk (blk_below (blk_drew FRr.out) hb5)
                  have HB5 := Aside0.mk (below_step (below_drew HBr.out) hb5)
                  have HO5 := Aside0.mk (Kd.R_lower (base' := w.heap.size) (Kd.R_mono (Kd.R_bound ho5) (ok' := fun k => k ≠ w.heap.size ∧ k ≠ w.heap.size + 1) (fun k hk => by have := hk.2.1; have := blk_lt FLr.out; have := blk_lt FRr.out; have e : wr.drew.heap.size = wr.heap.size := rfl; omega)) HBr.out.size)
                  obtain ⟨Av, cv, rfl⟩ := Kd.R_slice HO5.out
                  clear ho5 hb5
                  refine hK.out _ _ ⟨((blk_cell (FL5.out) 0).trans rfl), ((blk_cell (FR5.out) 0).trans rfl)⟩ (fun hHeld => ?_)
                  clear hK K
                  refine norm_ (a' := ?_) ?_ ?_
                  rotate_left
                  · show Act.put _ (some 60) _ = _
                    simp only [Act.put, List.setIfInBounds_toArray, List.set_cons_zero, List.set_cons_succ, i64_w, i32_w]
                    rfl
                  refine last_ (i := 11) (N := none) #[true, true, true, true, true, true, true, true, true, true, true, true] rfl rfl (by kernel_rfl) (by decide) (fun K hK => ?_)
                  have z0 : w5.frozen? ⟨w.heap.size, 0, none⟩ = false := blk_frozen FL5.out 0
                  have q0 : w5.cell? ⟨w.heap.size, 0, none⟩ = some (.slice none 0 0) := (blk_cell FL5.out 0).trans rfl
                  refine skip_ (w1 := ?_) (by rfl) rfl ?_ ?_
                  rotate_left
                  · go_simp
                    rfl
                  refine hK.out _ _ ?_
                  clear hK K
                  refine done_ (by kernel_rfl) ?_
                  have FL6 := Aside0.mk (show (w5.setCell ⟨w.heap.size, 0, none⟩ (.slice Av l.length cv)).heap[w.heap.size]? = some (.cells #[.slice Av l.length cv] 46 (0, 0)) from blk_put FL5.out 0 _ rfl)
                  have FR6 := Aside0.mk (show (w5.setCell ⟨w.heap.size, 0, none⟩ (.slice Av l.length cv)).heap[w.heap.size + 1]? = some (.cells #[.int .i64 rd] 3 (0, 0)) from blk_far FR5.out (Nat.succ_ne_self _) _)
                  have HO6 := Aside0.mk (Kd.R_far HO5.out (p := ⟨w.heap.size, 0, none⟩) (fun k hk => hk.1) (.slice Av l.length cv))
                  have HB6 := Aside0.mk (show Below w.heap.size w (w5.setCell ⟨w.heap.size, 0, none⟩ (.slice Av l.length cv)) from HB5.out.setCell (Nat.le_refl _) _)
                  generalize w5.setCell ⟨w.heap.size, 0, none⟩ (.slice Av l.length cv) = w6 at FL6 FR6 HO6 HB6 ⊢
                  have q6 : w6.cell? ⟨w.heap.size, 0, none⟩ = some (.slice Av l.length cv) := (blk_cell FL6.out 0).trans rfl
                  have p6 : w6.cell? ⟨w.heap.size + 1, 0, none⟩ = some (.int .i64 rd) := (blk_cell FR6.out 0).trans rfl
                  have H := H.out
                  by_cases c1 : lo = 0
                  · rw [if_pos c1] at H
                    have e := Option.some.inj H
                    subst e
                    clear H
                    have c1b : (lo != 0) = false := bne_eq_false_iff_eq.mpr c1
                    clear c1
                    go_wp2_with (first | (go_at_call 79; (with_reducible refine (li_add.calls (⟨#[115, 108, 108, 105]⟩ : ByteArray) 28 0 200 of_slli rd j rd w.heap.size (w.heap.size + 1) (.slice Av l.length cv) l w _ ?n1 ?n2 ?n3 (Nat.le_refl _) (by omega) ?n4 ?n5 ?n6).mono ?_); (case n1 => exact LaidN.below HLN.out (HB6.out)); (case n2 => exact FL6.out); (case n3 => exact FR6.out); (case n4 => exact HO6.out); (case n5 => exact HB6.out); (case n6 => (have := HLL.out; omega)); rintro e w7 ⟨rfl, v7, fl, fr, ho, hb⟩; have FL7 := Aside0.mk fl; have FR7 := Aside0.mk fr; have HO7 := Aside0.mk ho; have HB7 := Aside0.mk hb; have q7 : w7.cell? ⟨w.heap.size, 0, none⟩ = some v7 := (blk_cell fl 0).trans rfl; have p7 : w7.cell? ⟨w.heap.size + 1, 0, none⟩ = some (.int .i64 rd) := (blk_cell fr 0).trans rfl; clear fl fr ho hb))
                    go_ret
                    exact ⟨_, rfl, Kd.R_mono HO7.out (fun _ _ => trivial), HB7.out⟩
                  · rw [if_neg c1] at H
                    have e := Option.some.inj H
                    subst e
                    clear H
                    have c1b : (lo != 0) = true := bne_iff_ne.mpr c1
                    clear c1
                    go_wp2_with (first | (go_at_call 79; (with_reducible refine (li_add.calls (⟨#[115, 108, 108, 105]⟩ : ByteArray) 28 0 200 of_slli rd j rd w.heap.size (w.heap.size + 1) (.slice Av l.length cv) l w _ ?n1 ?n2 ?n3 (Nat.le_refl _) (by omega) ?n4 ?n5 ?n6).mono ?_); (case n1 => exact LaidN.below HLN.out (HB6.out)); (case n2 => exact FL6.out); (case n3 => exact FR6.out); (case n4 => exact HO6.out); (case n5 => exact HB6.out); (case n6 => (have := HLL.out; omega)); rintro e w7 ⟨rfl, v7, fl, fr, ho, hb⟩; have FL7 := Aside0.mk fl; have FR7 := Aside0.mk fr; have HO7 := Aside0.mk ho; have HB7 := Aside0.mk hb; have q7 : w7.cell? ⟨w.heap.size, 0, none⟩ = some v7 := (blk_cell fl 0).trans rfl; have p7 : w7.cell? ⟨w.heap.size + 1, 0, none⟩ = some (.int .i64 rd) := (blk_cell fr 0).trans rfl; clear fl fr ho hb) | (go_at_call 79; (with_reducible refine (li_add.calls (⟨#[97, 100, 100, 105]⟩ : ByteArray) 22 0 200 of_addi rd lo rd w.heap.size (w.heap.size + 1) v7 (l ++ [(⟨28, rd, rd, 0, j⟩ : S33)]) w _ ?n1 ?n2 ?n3 (Nat.le_refl _) (by omega) ?n4 ?n5 ?n6).mono ?_); (case n1 => exact LaidN.below HLN.out (HB7.out)); (case n2 => exact FL7.out); (case n3 => exact FR7.out); (case n4 => exact HO7.out); (case n5 => exact HB7.out); (case n6 => (have := HLL.out; simp; omega)); rintro e w8 ⟨rfl, v8, fl, fr, ho, hb⟩; have FL8 := Aside0.mk fl; have FR8 := Aside0.mk fr; have HO8 := Aside0.mk ho; have HB8 := Aside0.mk hb; have q8 : w8.cell? ⟨w.heap.size, 0, none⟩ = some v8 := (blk_cell fl 0).trans rfl; have p8 : w8.cell? ⟨w.heap.size + 1, 0, none⟩ = some (.int .i64 rd) := (blk_cell fr 0).trans rfl; clear fl fr ho hb))
                    go_ret
                    exact ⟨_, rfl, Kd.R_mono HO8.out (fun _ _ => trivial), HB8.out⟩
                · rw [if_neg c4] at H
                  exact absurd H (by simp)
              · rw [if_neg c3] at H
                exact absurd H (by simp)
set_option maxHeartbeats 3200000 in
set_option maxRecDepth 100000 in
theorem li_Steps.calls (k : Nat) (a0 a1 : Int) (r1 : List S33) (r2 : Int) (w : World) (hN : LaidN w) (h : li_Steps.f k a0 a1 = some (r1, r2)) :
    Calls Tryd.prog 33 #[.int .i64 a0, .int .i64 a1] w fun e w' => ∃ v0_ : Value, e = .returned (.tuple #[v0_, .int .i64 r2]) ∧ Kd.R k33 33 w' w.heap.size (fun _ => True) v0_ r1 ∧ Below w.heap.size w w' := by
  have HLN := Aside0.mk hN
  have HB := Aside0.mk (Below.refl w.heap.size w)
  unfold li_Steps.f at h
  by_cases c1 : a0 < 0
  · rw [if_pos c1] at h
    have c1b : decide (a0 < 0) = true := decide_eq_true c1
    clear c1
    have e := Option.some.inj h
    simp only [Prod.mk.injEq] at e
    obtain ⟨rfl, rfl⟩ := e
    go_enter Tryd.func33, Tryd.ntmps33
    go_wp2
    go_ret2
    exact ⟨_, by first | rfl | (simp; done), Kd.R_nil _ _ _ _ _, by repeat (first | (with_reducible first | exact HB.out | apply below_alloc | apply pw_below_drewN | apply below_drew1) | exact HB.out)⟩
  · rw [if_neg c1] at h
    have c1b : decide (a0 < 0) = false := decide_eq_false c1
    clear c1
    by_cases c2 : a0 > 31
    · rw [if_pos c2] at h
      have c2b : decide (31 < a0) = true := decide_eq_true c2
      clear c2
      have e := Option.some.inj h
      simp only [Prod.mk.injEq] at e
      obtain ⟨rfl, rfl⟩ := e
      go_enter Tryd.func33, Tryd.ntmps33
      go_wp2
      go_ret2
      exact ⟨_, by first | rfl | (simp; done), Kd.R_nil _ _ _ _ _, by repeat (first | (with_reducible first | exact HB.out | apply below_alloc | apply pw_below_drewN | apply below_drew1) | exact HB.out)⟩
    · rw [if_neg c2] at h
      have c2b : decide (31 < a0) = false := decide_eq_false c2
      clear c2
      obtain ⟨l, A1, h⟩ := Option.bind_eq_some_iff.mp h
      have A1 := Aside0.mk A1
      have e := Option.some.inj h
      simp only [Prod.mk.injEq] at e
      obtain ⟨rfl, rfl⟩ := e
      clear h
      go_enter Tryd.func33, Tryd.ntmps33
      go_wp2_with (first | (go_at_call 62; (with_reducible refine (li_steps.calls k a0 a1 l _ ?sideLN A1.out).mono ?_); (case sideLN => (repeat (first | exact HLN.out | (with_reducible refine LaidN.drewN ?_ _) | (with_reducible refine LaidN.drew ?_)))); rintro e w6 ⟨v6, rfl, ho, hb⟩))
      go_ret2
      exact ⟨_, by first | rfl | (simp; done), ho, hb⟩
end Go.Proofs.YtpijiohiohiilaaDoor.D
