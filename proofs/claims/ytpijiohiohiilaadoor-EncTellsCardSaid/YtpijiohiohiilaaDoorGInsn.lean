/- insn.Name and insn.Of, which read the package variable insn.names: each answers what its Lean function tells, where the variable holds its names. -/
import Derived.Test.YtpijiohiohiilaaDoorDInsn
import Derived.Test.YtpijiohiohiilaaDoorDSlices
namespace Go.Proofs.YtpijiohiohiilaaDoor.D
open Go.RowKit Go.Proofs.YtpijiohiohiilaaDoorW.PrintWords Go.Proofs.YtpijiohiohiilaaDoorW.PrintLast Go.Proofs.YtpijiohiohiilaaDoorW.PrintMore
set_option linter.unusedVariables false
set_option linter.unusedSimpArgs false

/-- Name: the name of one that there is. -/
def insn_Name.f (a0 : Int) : Option (ByteArray × Int) := (insn_known.f a0).bind fun t =>
  if t = true then (if 1 ≤ a0 ∧ a0 < 95 then some (namesL.getD (a0 - 1).toNat ⟨#[]⟩, 0) else none) else some (⟨#[]⟩, 2)
set_option maxHeartbeats 800000 in
set_option maxRecDepth 100000 in
theorem insn_Name.calls (a0 : Int) (r1 : ByteArray) (r2 : Int) (w : World) (hN : LaidN w) (h : insn_Name.f a0 = some (r1, r2)) :
    Calls Tryd.prog 21 #[.int .u8 a0] w fun e w' => e = .returned (.tuple #[.string r1, .int .i64 r2]) ∧ Drawn0 w w' := by
  unfold insn_Name.f at h
  obtain ⟨t, hk, h⟩ := Option.bind_eq_some_iff.mp h
  have A := Aside0.mk hk
  clear hk
  cases t with
  | true =>
    rw [if_pos rfl] at h
    by_cases hb : 1 ≤ a0 ∧ a0 < 95
    · rw [if_pos hb] at h
      simp only [Option.some.injEq, Prod.mk.injEq] at h
      obtain ⟨rfl, rfl⟩ := h
      obtain ⟨n, rfl⟩ : ∃ n : Nat, a0 = (n : Int) + 1 := ⟨(a0 - 1).toNat, by omega⟩
      have hn : n < 94 := by omega
      have e1 : ((n : Int) + 1 - 1).toNat = n := by omega
      rw [e1]
      have hc := hN.cell n hn
      clear e1 hN hb
      go_enter Tryd.func21, Tryd.ntmps21
      go_wp2_with (first | (go_at_call 55; (with_reducible refine (insn_known.calls _ true _ A.out).mono ?_); rintro e w' ⟨rfl, ⟨nd, rfl⟩⟩))
      go_ret2
      exact ⟨rfl, by repeat (first | exact Drawn0.refl _ | apply Drawn0.step)⟩
    · rw [if_neg hb] at h; exact absurd h (by simp)
  | false =>
    rw [if_neg (by decide)] at h
    simp only [Option.some.injEq, Prod.mk.injEq] at h
    obtain ⟨rfl, rfl⟩ := h
    go_enter Tryd.func21, Tryd.ntmps21
    go_wp2_with (first | (go_at_call 55; (with_reducible refine (insn_known.calls _ false _ A.out).mono ?_); rintro e w' ⟨rfl, ⟨nd, rfl⟩⟩))
    go_ret2
    exact ⟨rfl, by repeat (first | exact Drawn0.refl _ | apply Drawn0.step)⟩

theorem names_read {w : World} (hN : LaidN w) : Kd.C Kd.string w (some ⟨0, 0, none⟩) namesL.length namesL :=
  Kd.C_of_reads (d := (⟨#[]⟩ : ByteArray)) (h1 := fun _ => rfl) ⟨rfl, by rw [namesL_length]; decide, fun _ => ⟨_, rfl, fun j hj => by
    rw [add_plain]; exact hN.cell j (by rw [namesL_length] at hj; exact hj)⟩⟩
/-- Of: the one of a name. -/
def insn_Of.f (k : Nat) (a0 : ByteArray) : Option (Int × Int) := (slices_Index_string_string.f k namesL a0).bind fun t =>
  if t < 0 then some (0, 6) else some ((wrap64 (t + 1)) % 256, 0)
theorem insn_Of.mono : ∀ a0 k, LeO (insn_Of.f k a0) (insn_Of.f (k + 1) a0) := by
  intro a0 k
  unfold insn_Of.f
  exact LeO.bind (slices_Index_string_string.mono _ _ _) (fun _ => LeO.refl _)
set_option maxHeartbeats 800000 in
set_option maxRecDepth 100000 in
theorem insn_Of.calls (k : Nat) (a0 : ByteArray) (r1 : Int) (r2 : Int) (w : World) (hN : LaidN w) (h : insn_Of.f k a0 = some (r1, r2)) :
    Calls Tryd.prog 22 #[.string a0] w fun e w' => e = .returned (.tuple #[.int .u8 r1, .int .i64 r2]) ∧ Drawn0 w w' := by
  unfold insn_Of.f at h
  obtain ⟨t, hk, h⟩ := Option.bind_eq_some_iff.mp h
  have hc := names_read hN
  have key : ∀ W, Kd.C Kd.string W (some ⟨0, 0, none⟩) namesL.length namesL → Calls Tryd.prog 56 #[.slice (some ⟨0, 0, none⟩) 94 94, .string a0] W fun e w' => e = .returned (.int .i64 t) ∧ Drawn0 W w' := by
    intro W hW
    have := slices_Index_string_string.calls k (some ⟨0, 0, none⟩) namesL.length namesL a0 t W hW (Nat.le_refl _) hk
    rwa [namesL_length] at this
  have K := Aside0.mk (key w hc)
  clear key hc hk hN
  by_cases ht : t < 0
  · rw [if_pos ht] at h
    simp only [Option.some.injEq, Prod.mk.injEq] at h
    obtain ⟨rfl, rfl⟩ := h
    have hb : decide (t < 0) = true := decide_eq_true ht
    clear ht
    go_enter Tryd.func22, Tryd.ntmps22
    go_wp2_with (first | (go_at_call 56; (with_reducible refine K.out.mono ?_); rintro e w' ⟨rfl, ⟨nd, rfl⟩⟩))
    go_ret2
    exact ⟨rfl, by repeat (first | exact Drawn0.refl _ | apply Drawn0.step)⟩
  · rw [if_neg ht] at h
    simp only [Option.some.injEq, Prod.mk.injEq] at h
    obtain ⟨rfl, rfl⟩ := h
    have hb : decide (t < 0) = false := decide_eq_false ht
    clear ht
    go_enter Tryd.func22, Tryd.ntmps22
    go_wp2_with (first | (go_at_call 56; (with_reducible refine K.out.mono ?_); rintro e w' ⟨rfl, ⟨nd, rfl⟩⟩))
    go_ret2
    exact ⟨by first | rfl | (simp; done), by repeat (first | exact Drawn0.refl _ | apply Drawn0.step)⟩
end Go.Proofs.YtpijiohiohiilaaDoor.D
