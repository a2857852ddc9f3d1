/- Walks and rows of the laws of quoin: each Lean function here tells just what the Go function of its name answers. Conditions: none but those that a row itself names. Written by a program of this session (wip/reprint.py) over the kit print, and turned by it. -/
import Derived.Test.YtpijiohiohiilaaDoorD0
import Derived.Test.YtpijiohiohiilaaDoorDBits
import Derived.Test.YtpijiohiohiilaaDoorDEnc
import Derived.Test.YtpijiohiohiilaaDoorDEq0
import Derived.Test.YtpijiohiohiilaaDoorDInsn
import Derived.Test.YtpijiohiohiilaaDoorDQuoinlaw03
import Derived.Test.YtpijiohiohiilaaDoorGEnc
namespace Go.Proofs.YtpijiohiohiilaaDoor.D
open Go.RowKit Go.Proofs.YtpijiohiohiilaaDoorW.PrintWords Go.Proofs.YtpijiohiohiilaaDoorW.PrintLast Go.Proofs.YtpijiohiohiilaaDoorW.PrintMore
attribute [local go_sem] max2_int min2_int max_two min_two max_three min_three max_four min_four   -- for this text's walks alone
set_option linter.unusedVariables false
set_option linter.unusedSimpArgs false

attribute [local go_sem high] eqA33
/-! ### quoinlaw03_EncAlone: function 19 -/
mutual
def quoinlaw03_EncAlone.j0 : Nat → Bool → Int → Int → Int → Int → Bool → Int → Int → Int → Int → Int → Int → Int → Int → Int → Int → Option (Bool)
 | 0, _, _, _, _, _, _, _, _, _, _, _, _, _, _, _, _ => none
 | k + 1, x5, x6, x7, x8, x9, x38, x787000, x787001, x787002, x787003, x787004, x788000, x788001, x788002, x788003, x788004 => if x38 = true then (if x5 = true then (if x6 = 0 then ((insn_Check.f k x787000 x787001 x787002 x787003 x787004).bind fun t793 => (some (t793 == x7))) else (none)) else (none)) else (if x9 = 0 then (quoinlaw03_EncAlone.j1 k x6 ((x6 == x8) != (x787000 == x788000 && (x787001 == x788001 && (x787002 == x788002 && (x787003 == x788003 && (x787004 == x788004)))))) x787000 x787001 x787002 x787003 x787004) else (quoinlaw03_EncAlone.j1 k x6 false x787000 x787001 x787002 x787003 x787004))
def quoinlaw03_EncAlone.j1 : Nat → Int → Bool → Int → Int → Int → Int → Int → Option (Bool)
 | 0, _, _, _, _, _, _, _ => none
 | k + 1, x6, x60, x787000, x787001, x787002, x787003, x787004 => if x60 = true then (none) else ((insn_Form.f x787000).bind fun bt794 => ((enc_Base.f x787000).bind fun bt796 => ((enc_Places.f k bt794.1).bind fun bt798 => ((bits_Gather.f k x6 bt798.1).bind fun bt802 => (if bt794.2 = 0 then (if bt796.2 = 0 then (if bt798.2 = 0 then (quoinlaw03_EncAlone.j2 k x6 bt794.1 bt796.1 bt798.1 bt802.1 (bt802.2 != 0) x787000 x787001 x787002 x787003 x787004) else (quoinlaw03_EncAlone.j2 k x6 bt794.1 bt796.1 bt798.1 bt802.1 true x787000 x787001 x787002 x787003 x787004)) else (quoinlaw03_EncAlone.j2 k x6 bt794.1 bt796.1 bt798.1 bt802.1 true x787000 x787001 x787002 x787003 x787004)) else (quoinlaw03_EncAlone.j2 k x6 bt794.1 bt796.1 bt798.1 bt802.1 true x787000 x787001 x787002 x787003 x787004))))))
def quoinlaw03_EncAlone.j2 : Nat → Int → Int → Int → List Int → Int → Bool → Int → Int → Int → Int → Int → Option (Bool)
 | 0, _, _, _, _, _, _, _, _, _, _, _ => none
 | k + 1, x6, x10, x12, x14, x16, x97, x787000, x787001, x787002, x787003, x787004 => if x97 = true then (none) else (if x10 = 74 then (quoinlaw03_EncAlone.j3 k x6 x12 x14 x16 x787004 true x787000 x787001 x787002 x787003 x787004) else (quoinlaw03_EncAlone.j3 k x6 x12 x14 x16 x787004 (x10 == 66) x787000 x787001 x787002 x787003 x787004))
def quoinlaw03_EncAlone.j3 : Nat → Int → Int → List Int → Int → Int → Bool → Int → Int → Int → Int → Int → Option (Bool)
 | 0, _, _, _, _, _, _, _, _, _, _, _ => none
 | k + 1, x6, x12, x14, x16, x18, x105, x787000, x787001, x787002, x787003, x787004 => if x105 = true then (quoinlaw03_EncAlone.j4 k x6 x12 x14 x16 (wrap64 (Int.tdiv x18 2)) x787000 x787001 x787002 x787003 x787004) else (quoinlaw03_EncAlone.j4 k x6 x12 x14 x16 x18 x787000 x787001 x787002 x787003 x787004)
def quoinlaw03_EncAlone.j4 : Nat → Int → Int → List Int → Int → Int → Int → Int → Int → Int → Int → Option (Bool)
 | 0, _, _, _, _, _, _, _, _, _, _ => none
 | k + 1, x6, x12, x14, x16, x18, x787000, x787001, x787002, x787003, x787004 => if (x14.length : Int) > 0 then (if 0 ≤ (wrap64 (32 - (x14.length : Int))) then (quoinlaw03_EncAlone.j5 k x6 x12 x14 x16 (shr .u32 (shl .u32 ((x18) % 4294967296) (wrap64 (32 - (x14.length : Int)))) (wrap64 (32 - (x14.length : Int)))) x787000 x787001 x787002 x787003 x787004) else (none)) else (quoinlaw03_EncAlone.j5 k x6 x12 x14 x16 0 x787000 x787001 x787002 x787003 x787004)
def quoinlaw03_EncAlone.j5 : Nat → Int → Int → List Int → Int → Int → Int → Int → Int → Int → Int → Option (Bool)
 | 0, _, _, _, _, _, _, _, _, _, _ => none
 | k + 1, x6, x12, x14, x16, x19, x787000, x787001, x787002, x787003, x787004 => if x16 = x19 then (if x787001 = 0 then (if x787002 = 0 then (if x787003 = 0 then ((bits_Scatter.f k x16 x14).bind fun bt804 => (if bt804.2 = 0 then (if x6 = (Go.bits .or .u32 (Go.bits .or .u32 (Go.bits .or .u32 (Go.bits .or .u32 x12 bt804.1) ((((x787001) % 4294967296) * 128) % 4294967296)) ((((x787002) % 4294967296) * 32768) % 4294967296)) ((((x787003) % 4294967296) * 1048576) % 4294967296)) then (some ((Go.bits .and .u32 x12 bt804.1) == 0)) else (none)) else (none))) else ((quoinlaw03_field.f x6 20).bind fun t806 => (if t806 = x787003 then ((bits_Scatter.f k x16 x14).bind fun bt807 => (if bt807.2 = 0 then (if x6 = (Go.bits .or .u32 (Go.bits .or .u32 (Go.bits .or .u32 (Go.bits .or .u32 x12 bt807.1) ((((x787001) % 4294967296) * 128) % 4294967296)) ((((x787002) % 4294967296) * 32768) % 4294967296)) ((((x787003) % 4294967296) * 1048576) % 4294967296)) then (some ((Go.bits .and .u32 x12 bt807.1) == 0)) else (none)) else (none))) else (none)))) else ((quoinlaw03_field.f x6 15).bind fun t809 => (if t809 = x787002 then (if x787003 = 0 then ((bits_Scatter.f k x16 x14).bind fun bt810 => (if bt810.2 = 0 then (if x6 = (Go.bits .or .u32 (Go.bits .or .u32 (Go.bits .or .u32 (Go.bits .or .u32 x12 bt810.1) ((((x787001) % 4294967296) * 128) % 4294967296)) ((((x787002) % 4294967296) * 32768) % 4294967296)) ((((x787003) % 4294967296) * 1048576) % 4294967296)) then (some ((Go.bits .and .u32 x12 bt810.1) == 0)) else (none)) else (none))) else ((quoinlaw03_field.f x6 20).bind fun t812 => (if t812 = x787003 then ((bits_Scatter.f k x16 x14).bind fun bt813 => (if bt813.2 = 0 then (if x6 = (Go.bits .or .u32 (Go.bits .or .u32 (Go.bits .or .u32 (Go.bits .or .u32 x12 bt813.1) ((((x787001) % 4294967296) * 128) % 4294967296)) ((((x787002) % 4294967296) * 32768) % 4294967296)) ((((x787003) % 4294967296) * 1048576) % 4294967296)) then (some ((Go.bits .and .u32 x12 bt813.1) == 0)) else (none)) else (none))) else (none)))) else (none)))) else ((quoinlaw03_field.f x6 7).bind fun t815 => (if t815 = x787001 then (if x787002 = 0 then (if x787003 = 0 then ((bits_Scatter.f k x16 x14).bind fun bt816 => (if bt816.2 = 0 then (if x6 = (Go.bits .or .u32 (Go.bits .or .u32 (Go.bits .or .u32 (Go.bits .or .u32 x12 bt816.1) ((((x787001) % 4294967296) * 128) % 4294967296)) ((((x787002) % 4294967296) * 32768) % 4294967296)) ((((x787003) % 4294967296) * 1048576) % 4294967296)) then (some ((Go.bits .and .u32 x12 bt816.1) == 0)) else (none)) else (none))) else ((quoinlaw03_field.f x6 20).bind fun t818 => (if t818 = x787003 then ((bits_Scatter.f k x16 x14).bind fun bt819 => (if bt819.2 = 0 then (if x6 = (Go.bits .or .u32 (Go.bits .or .u32 (Go.bits .or .u32 (Go.bits .or .u32 x12 bt819.1) ((((x787001) % 4294967296) * 128) % 4294967296)) ((((x787002) % 4294967296) * 32768) % 4294967296)) ((((x787003) % 4294967296) * 1048576) % 4294967296)) then (some ((Go.bits .and .u32 x12 bt819.1) == 0)) else (none)) else (none))) else (none)))) else ((quoinlaw03_field.f x6 15).bind fun t821 => (if t821 = x787002 then (if x787003 = 0 then ((bits_Scatter.f k x16 x14).bind fun bt822 => (if bt822.2 = 0 then (if x6 = (Go.bits .or .u32 (Go.bits .or .u32 (Go.bits .or .u32 (Go.bits .or .u32 x12 bt822.1) ((((x787001) % 4294967296) * 128) % 4294967296)) ((((x787002) % 4294967296) * 32768) % 4294967296)) ((((x787003) % 4294967296) * 1048576) % 4294967296)) then (some ((Go.bits .and .u32 x12 bt822.1) == 0)) else (none)) else (none))) else ((quoinlaw03_field.f x6 20).bind fun t824 => (if t824 = x787003 then ((bits_Scatter.f k x16 x14).bind fun bt825 => (if bt825.2 = 0 then (if x6 = (Go.bits .or .u32 (Go.bits .or .u32 (Go.bits .or .u32 (Go.bits .or .u32 x12 bt825.1) ((((x787001) % 4294967296) * 128) % 4294967296)) ((((x787002) % 4294967296) * 32768) % 4294967296)) ((((x787003) % 4294967296) * 1048576) % 4294967296)) then (some ((Go.bits .and .u32 x12 bt825.1) == 0)) else (none)) else (none))) else (none)))) else (none)))) else (none)))) else (none)
end
def quoinlaw03_EncAlone.f (k : Nat) (a0_0 : Int) (a0_1 : Int) (a0_2 : Int) (a0_3 : Int) (a0_4 : Int) (a1_0 : Int) (a1_1 : Int) (a1_2 : Int) (a1_3 : Int) (a1_4 : Int) : Option (Bool) := (quoinlaw03_alive.f k).bind fun t788 => ((enc_Word.f k a0_0 a0_1 a0_2 a0_3 a0_4).bind fun bt789 => ((enc_Word.f k a1_0 a1_1 a1_2 a1_3 a1_4).bind fun bt791 => (if bt789.2 = 0 then (quoinlaw03_EncAlone.j0 k t788 bt789.1 bt789.2 bt791.1 bt791.2 (!t788) a0_0 a0_1 a0_2 a0_3 a0_4 a1_0 a1_1 a1_2 a1_3 a1_4) else (quoinlaw03_EncAlone.j0 k t788 bt789.1 bt789.2 bt791.1 bt791.2 true a0_0 a0_1 a0_2 a0_3 a0_4 a1_0 a1_1 a1_2 a1_3 a1_4))))
theorem quoinlaw03_EncAlone.mono_l : ∀ k, (∀ y0 y1 y2 y3 y4 y5 y6 y7 y8 y9 y10 y11 y12 y13 y14 y15, LeO (quoinlaw03_EncAlone.j0 k y0 y1 y2 y3 y4 y5 y6 y7 y8 y9 y10 y11 y12 y13 y14 y15) (quoinlaw03_EncAlone.j0 (k + 1) y0 y1 y2 y3 y4 y5 y6 y7 y8 y9 y10 y11 y12 y13 y14 y15)) ∧ (∀ y0 y1 y2 y3 y4 y5 y6, LeO (quoinlaw03_EncAlone.j1 k y0 y1 y2 y3 y4 y5 y6) (quoinlaw03_EncAlone.j1 (k + 1) y0 y1 y2 y3 y4 y5 y6)) ∧ (∀ y0 y1 y2 y3 y4 y5 y6 y7 y8 y9 y10, LeO (quoinlaw03_EncAlone.j2 k y0 y1 y2 y3 y4 y5 y6 y7 y8 y9 y10) (quoinlaw03_EncAlone.j2 (k + 1) y0 y1 y2 y3 y4 y5 y6 y7 y8 y9 y10)) ∧ (∀ y0 y1 y2 y3 y4 y5 y6 y7 y8 y9 y10, LeO (quoinlaw03_EncAlone.j3 k y0 y1 y2 y3 y4 y5 y6 y7 y8 y9 y10) (quoinlaw03_EncAlone.j3 (k + 1) y0 y1 y2 y3 y4 y5 y6 y7 y8 y9 y10)) ∧ (∀ y0 y1 y2 y3 y4 y5 y6 y7 y8 y9, LeO (quoinlaw03_EncAlone.j4 k y0 y1 y2 y3 y4 y5 y6 y7 y8 y9) (quoinlaw03_EncAlone.j4 (k + 1) y0 y1 y2 y3 y4 y5 y6 y7 y8 y9)) ∧ (∀ y0 y1 y2 y3 y4 y5 y6 y7 y8 y9, LeO (quoinlaw03_EncAlone.j5 k y0 y1 y2 y3 y4 y5 y6 y7 y8 y9) (quoinlaw03_EncAlone.j5 (k + 1) y0 y1 y2 y3 y4 y5 y6 y7 y8 y9))
 | 0 => ⟨fun _ _ _ _ _ _ _ _ _ _ _ _ _ _ _ _ r h => by simp [quoinlaw03_EncAlone.j0] at h, fun _ _ _ _ _ _ _ r h => by simp [quoinlaw03_EncAlone.j1] at h, fun _ _ _ _ _ _ _ _ _ _ _ r h => by simp [quoinlaw03_EncAlone.j2] at h, fun _ _ _ _ _ _ _ _ _ _ _ r h => by simp [quoinlaw03_EncAlone.j3] at h, fun _ _ _ _ _ _ _ _ _ _ r h => by simp [quoinlaw03_EncAlone.j4] at h, fun _ _ _ _ _ _ _ _ _ _ r h => by simp [quoinlaw03_EncAlone.j5] at h⟩
 | k + 1 => by
  obtain ⟨ih0, ih1, ih2, ih3, ih4, ih5⟩ := quoinlaw03_EncAlone.mono_l k
  refine ⟨?_, ?_, ?_, ?_, ?_, ?_⟩
  ·intro y0 y1 y2 y3 y4 y5 y6 y7 y8 y9 y10 y11 y12 y13 y14 y15
   unfold quoinlaw03_EncAlone.j0
   repeat' first
   | (with_reducible exact ih0 _ _ _ _ _ _ _ _ _ _ _ _ _ _ _ _)
   | (with_reducible exact ih1 _ _ _ _ _ _ _)
   | (with_reducible exact ih2 _ _ _ _ _ _ _ _ _ _ _)
   | (with_reducible exact ih3 _ _ _ _ _ _ _ _ _ _ _)
   | (with_reducible exact ih4 _ _ _ _ _ _ _ _ _ _)
   | (with_reducible exact ih5 _ _ _ _ _ _ _ _ _ _)
   | (with_reducible exact bits_Gather.mono _ _ _)
   | (with_reducible exact bits_Scatter.mono _ _ _)
   | (with_reducible exact enc_Places.mono _ _)
   | (with_reducible exact enc_Word.mono _ _ _ _ _ _)
   | (with_reducible exact insn_Check.mono _ _ _ _ _ _)
   | (with_reducible exact quoinlaw03_alive.mono _)
   | (with_reducible exact LeO.refl _)
   | (with_reducible exact LeO.none _)
   | (with_reducible refine LeO.ite ?_ ?_)
   | (with_reducible refine LeO.bind ?_ (fun _ => ?_))
   | exact ih0 _ _ _ _ _ _ _ _ _ _ _ _ _ _ _ _
   | exact ih1 _ _ _ _ _ _ _
   | exact ih2 _ _ _ _ _ _ _ _ _ _ _
   | exact ih3 _ _ _ _ _ _ _ _ _ _ _
   | exact ih4 _ _ _ _ _ _ _ _ _ _
   | exact ih5 _ _ _ _ _ _ _ _ _ _
   | exact bits_Gather.mono _ _ _
   | exact bits_Scatter.mono _ _ _
   | exact enc_Places.mono _ _
   | exact enc_Word.mono _ _ _ _ _ _
   | exact insn_Check.mono _ _ _ _ _ _
   | exact quoinlaw03_alive.mono _
   | exact LeO.none _
   | refine LeO.ite ?_ ?_
   | refine LeO.bind ?_ (fun _ => ?_)
  ·intro y0 y1 y2 y3 y4 y5 y6
   unfold quoinlaw03_EncAlone.j1
   repeat' first
   | (with_reducible exact ih0 _ _ _ _ _ _ _ _ _ _ _ _ _ _ _ _)
   | (with_reducible exact ih1 _ _ _ _ _ _ _)
   | (with_reducible exact ih2 _ _ _ _ _ _ _ _ _ _ _)
   | (with_reducible exact ih3 _ _ _ _ _ _ _ _ _ _ _)
   | (with_reducible exact ih4 _ _ _ _ _ _ _ _ _ _)
   | (with_reducible exact ih5 _ _ _ _ _ _ _ _ _ _)
   | (with_reducible exact bits_Gather.mono _ _ _)
   | (with_reducible exact bits_Scatter.mono _ _ _)
   | (with_reducible exact enc_Places.mono _ _)
   | (with_reducible exact enc_Word.mono _ _ _ _ _ _)
   | (with_reducible exact insn_Check.mono _ _ _ _ _ _)
   | (with_reducible exact quoinlaw03_alive.mono _)
   | (with_reducible exact LeO.refl _)
   | (with_reducible exact LeO.none _)
   | (with_reducible refine LeO.ite ?_ ?_)
   | (with_reducible refine LeO.bind ?_ (fun _ => ?_))
   | exact ih0 _ _ _ _ _ _ _ _ _ _ _ _ _ _ _ _
   | exact ih1 _ _ _ _ _ _ _
   | exact ih2 _ _ _ _ _ _ _ _ _ _ _
   | exact ih3 _ _ _ _ _ _ _ _ _ _ _
   | exact ih4 _ _ _ _ _ _ _ _ _ _
   | exact ih5 _ _ _ _ _ _ _ _ _ _
   | exact bits_Gather.mono _ _ _
   | exact bits_Scatter.mono _ _ _
   | exact enc_Places.mono _ _
   | exact enc_Word.mono _ _ _ _ _ _
   | exact insn_Check.mono _ _ _ _ _ _
   | exact quoinlaw03_alive.mono _
   | exact LeO.none _
   | refine LeO.ite ?_ ?_
   | refine LeO.bind ?_ (fun _ => ?_)
  ·intro y0 y1 y2 y3 y4 y5 y6 y7 y8 y9 y10
   unfold quoinlaw03_EncAlone.j2
   repeat' first
   | (with_reducible exact ih0 _ _ _ _ _ _ _ _ _ _ _ _ _ _ _ _)
   | (with_reducible exact ih1 _ _ _ _ _ _ _)
   | (with_reducible exact ih2 _ _ _ _ _ _ _ _ _ _ _)
   | (with_reducible exact ih3 _ _ _ _ _ _ _ _ _ _ _)
   | (with_reducible exact ih4 _ _ _ _ _ _ _ _ _ _)
   | (with_reducible exact ih5 _ _ _ _ _ _ _ _ _ _)
   | (with_reducible exact bits_Gather.mono _ _ _)
   | (with_reducible exact bits_Scatter.mono _ _ _)
   | (with_reducible exact enc_Places.mono _ _)
   | (with_reducible exact enc_Word.mono _ _ _ _ _ _)
   | (with_reducible exact insn_Check.mono _ _ _ _ _ _)
   | (with_reducible exact quoinlaw03_alive.mono _)
   | (with_reducible exact LeO.refl _)
   | (with_reducible exact LeO.none _)
   | (with_reducible refine LeO.ite ?_ ?_)
   | (with_reducible refine LeO.bind ?_ (fun _ => ?_))
   | exact ih0 _ _ _ _ _ _ _ _ _ _ _ _ _ _ _ _
   | exact ih1 _ _ _ _ _ _ _
   | exact ih2 _ _ _ _ _ _ _ _ _ _ _
   | exact ih3 _ _ _ _ _ _ _ _ _ _ _
   | exact ih4 _ _ _ _ _ _ _ _ _ _
   | exact ih5 _ _ _ _ _ _ _ _ _ _
   | exact bits_Gather.mono _ _ _
   | exact bits_Scatter.mono _ _ _
   | exact enc_Places.mono _ _
   | exact enc_Word.mono _ _ _ _ _ _
   | exact insn_Check.mono _ _ _ _ _ _
   | exact quoinlaw03_alive.mono _
   | exact LeO.none _
   | refine LeO.ite ?_ ?_
   | refine LeO.bind ?_ (fun _ => ?_)
  ·intro y0 y1 y2 y3 y4 y5 y6 y7 y8 y9 y10
   unfold quoinlaw03_EncAlone.j3
   repeat' first
   | (with_reducible exact ih0 _ _ _ _ _ _ _ _ _ _ _ _ _ _ _ _)
   | (with_reducible exact ih1 _ _ _ _ _ _ _)
   | (with_reducible exact ih2 _ _ _ _ _ _ _ _ _ _ _)
   | (with_reducible exact ih3 _ _ _ _ _ _ _ _ _ _ _)
   | (with_reducible exact ih4 _ _ _ _ _ _ _ _ _ _)
   | (with_reducible exact ih5 _ _ _ _ _ _ _ _ _ _)
   | (with_reducible exact bits_Gather.mono _ _ _)
   | (with_reducible exact bits_Scatter.mono _ _ _)
   | (with_reducible exact enc_Places.mono _ _)
   | (with_reducible exact enc_Word.mono _ _ _ _ _ _)
   | (with_reducible exact insn_Check.mono _ _ _ _ _ _)
   | (with_reducible exact quoinlaw03_alive.mono _)
   | (with_reducible exact LeO.refl _)
   | (with_reducible exact LeO.none _)
   | (with_reducible refine LeO.ite ?_ ?_)
   | (with_reducible refine LeO.bind ?_ (fun _ => ?_))
   | exact ih0 _ _ _ _ _ _ _ _ _ _ _ _ _ _ _ _
   | exact ih1 _ _ _ _ _ _ _
   | exact ih2 _ _ _ _ _ _ _ _ _ _ _
   | exact ih3 _ _ _ _ _ _ _ _ _ _ _
   | exact ih4 _ _ _ _ _ _ _ _ _ _
   | exact ih5 _ _ _ _ _ _ _ _ _ _
   | exact bits_Gather.mono _ _ _
   | exact bits_Scatter.mono _ _ _
   | exact enc_Places.mono _ _
   | exact enc_Word.mono _ _ _ _ _ _
   | exact insn_Check.mono _ _ _ _ _ _
   | exact quoinlaw03_alive.mono _
   | exact LeO.none _
   | refine LeO.ite ?_ ?_
   | refine LeO.bind ?_ (fun _ => ?_)
  ·intro y0 y1 y2 y3 y4 y5 y6 y7 y8 y9
   unfold quoinlaw03_EncAlone.j4
   repeat' first
   | (with_reducible exact ih0 _ _ _ _ _ _ _ _ _ _ _ _ _ _ _ _)
   | (with_reducible exact ih1 _ _ _ _ _ _ _)
   | (with_reducible exact ih2 _ _ _ _ _ _ _ _ _ _ _)
   | (with_reducible exact ih3 _ _ _ _ _ _ _ _ _ _ _)
   | (with_reducible exact ih4 _ _ _ _ _ _ _ _ _ _)
   | (with_reducible exact ih5 _ _ _ _ _ _ _ _ _ _)
   | (with_reducible exact bits_Gather.mono _ _ _)
   | (with_reducible exact bits_Scatter.mono _ _ _)
   | (with_reducible exact enc_Places.mono _ _)
   | (with_reducible exact enc_Word.mono _ _ _ _ _ _)
   | (with_reducible exact insn_Check.mono _ _ _ _ _ _)
   | (with_reducible exact quoinlaw03_alive.mono _)
   | (with_reducible exact LeO.refl _)
   | (with_reducible exact LeO.none _)
   | (with_reducible refine LeO.ite ?_ ?_)
   | (with_reducible refine LeO.bind ?_ (fun _ => ?_))
   | exact ih0 _ _ _ _ _ _ _ _ _ _ _ _ _ _ _ _
   | exact ih1 _ _ _ _ _ _ _
   | exact ih2 _ _ _ _ _ _ _ _ _ _ _
   | exact ih3 _ _ _ _ _ _ _ _ _ _ _
   | exact ih4 _ _ _ _ _ _ _ _ _ _
   | exact ih5 _ _ _ _ _ _ _ _ _ _
   | exact bits_Gather.mono _ _ _
   | exact bits_Scatter.mono _ _ _
   | exact enc_Places.mono _ _
   | exact enc_Word.mono _ _ _ _ _ _
   | exact insn_Check.mono _ _ _ _ _ _
   | exact quoinlaw03_alive.mono _
   | exact LeO.none _
   | refine LeO.ite ?_ ?_
   | refine LeO.bind ?_ (fun _ => ?_)
  ·intro y0 y1 y2 y3 y4 y5 y6 y7 y8 y9
   unfold quoinlaw03_EncAlone.j5
   repeat' first
   | (with_reducible exact ih0 _ _ _ _ _ _ _ _ _ _ _ _ _ _ _ _)
   | (with_reducible exact ih1 _ _ _ _ _ _ _)
   | (with_reducible exact ih2 _ _ _ _ _ _ _ _ _ _ _)
   | (with_reducible exact ih3 _ _ _ _ _ _ _ _ _ _ _)
   | (with_reducible exact ih4 _ _ _ _ _ _ _ _ _ _)
   | (with_reducible exact ih5 _ _ _ _ _ _ _ _ _ _)
   | (with_reducible exact bits_Gather.mono _ _ _)
   | (with_reducible exact bits_Scatter.mono _ _ _)
   | (with_reducible exact enc_Places.mono _ _)
   | (with_reducible exact enc_Word.mono _ _ _ _ _ _)
   | (with_reducible exact insn_Check.mono _ _ _ _ _ _)
   | (with_reducible exact quoinlaw03_alive.mono _)
   | (with_reducible exact LeO.refl _)
   | (with_reducible exact LeO.none _)
   | (with_reducible refine LeO.ite ?_ ?_)
   | (with_reducible refine LeO.bind ?_ (fun _ => ?_))
   | exact ih0 _ _ _ _ _ _ _ _ _ _ _ _ _ _ _ _
   | exact ih1 _ _ _ _ _ _ _
   | exact ih2 _ _ _ _ _ _ _ _ _ _ _
   | exact ih3 _ _ _ _ _ _ _ _ _ _ _
   | exact ih4 _ _ _ _ _ _ _ _ _ _
   | exact ih5 _ _ _ _ _ _ _ _ _ _
   | exact bits_Gather.mono _ _ _
   | exact bits_Scatter.mono _ _ _
   | exact enc_Places.mono _ _
   | exact enc_Word.mono _ _ _ _ _ _
   | exact insn_Check.mono _ _ _ _ _ _
   | exact quoinlaw03_alive.mono _
   | exact LeO.none _
   | refine LeO.ite ?_ ?_
   | refine LeO.bind ?_ (fun _ => ?_)
theorem quoinlaw03_EncAlone.mono : ∀ a0 a1 a2 a3 a4 a5 a6 a7 a8 a9 k, LeO (quoinlaw03_EncAlone.f k a0 a1 a2 a3 a4 a5 a6 a7 a8 a9) (quoinlaw03_EncAlone.f (k + 1) a0 a1 a2 a3 a4 a5 a6 a7 a8 a9) := by
 intro a0 a1 a2 a3 a4 a5 a6 a7 a8 a9 k
 obtain ⟨ih0, ih1, ih2, ih3, ih4, ih5⟩ := quoinlaw03_EncAlone.mono_l k
 unfold quoinlaw03_EncAlone.f
 repeat' first
   | (with_reducible exact ih0 _ _ _ _ _ _ _ _ _ _ _ _ _ _ _ _)
   | (with_reducible exact ih1 _ _ _ _ _ _ _)
   | (with_reducible exact ih2 _ _ _ _ _ _ _ _ _ _ _)
   | (with_reducible exact ih3 _ _ _ _ _ _ _ _ _ _ _)
   | (with_reducible exact ih4 _ _ _ _ _ _ _ _ _ _)
   | (with_reducible exact ih5 _ _ _ _ _ _ _ _ _ _)
   | (with_reducible exact bits_Gather.mono _ _ _)
   | (with_reducible exact bits_Scatter.mono _ _ _)
   | (with_reducible exact enc_Places.mono _ _)
   | (with_reducible exact enc_Word.mono _ _ _ _ _ _)
   | (with_reducible exact insn_Check.mono _ _ _ _ _ _)
   | (with_reducible exact quoinlaw03_alive.mono _)
   | (with_reducible exact LeO.refl _)
   | (with_reducible exact LeO.none _)
   | (with_reducible refine LeO.ite ?_ ?_)
   | (with_reducible refine LeO.bind ?_ (fun _ => ?_))
   | exact ih0 _ _ _ _ _ _ _ _ _ _ _ _ _ _ _ _
   | exact ih1 _ _ _ _ _ _ _
   | exact ih2 _ _ _ _ _ _ _ _ _ _ _
   | exact ih3 _ _ _ _ _ _ _ _ _ _ _
   | exact ih4 _ _ _ _ _ _ _ _ _ _
   | exact ih5 _ _ _ _ _ _ _ _ _ _
   | exact bits_Gather.mono _ _ _
   | exact bits_Scatter.mono _ _ _
   | exact enc_Places.mono _ _
   | exact enc_Word.mono _ _ _ _ _ _
   | exact insn_Check.mono _ _ _ _ _ _
   | exact quoinlaw03_alive.mono _
   | exact LeO.none _
   | refine LeO.ite ?_ ?_
   | refine LeO.bind ?_ (fun _ => ?_)
abbrev quoinlaw03_EncAlone.m0 : Array Bool := #[false, false, false, false, false, false, false, false, false, false, false, false, false, false, false, false, false, false, false, false, false, false, false, false, false, false, false, false, false, false, false, false, false, false, false, false, false, false, false]
abbrev quoinlaw03_EncAlone.m1 : Array Bool := #[true, false, false, false, false, false, false, false, false, false, false, false, false, false, false, false, false, false, false, false, false, false, false, false, false, false, false, false, false, false, false, false, false, false, false, false, false, false, false]
abbrev quoinlaw03_EncAlone.m2 : Array Bool := #[true, true, false, false, false, false, false, false, false, false, false, false, false, false, false, false, false, false, false, false, false, false, false, false, false, false, false, false, false, false, false, false, false, false, false, false, false, false, false]
abbrev quoinlaw03_EncAlone.m3 : Array Bool := #[true, true, true, false, false, false, false, false, false, false, false, false, false, false, false, false, false, false, false, false, false, false, false, false, false, false, false, false, false, false, false, false, false, false, false, false, false, false, false]
abbrev quoinlaw03_EncAlone.m4 : Array Bool := #[true, true, true, true, false, false, false, false, false, false, false, false, false, false, false, false, false, false, false, false, false, false, false, false, false, false, false, false, false, false, false, false, false, false, false, false, false, false, false]
abbrev quoinlaw03_EncAlone.m5 : Array Bool := #[true, true, true, true, true, false, false, false, false, false, false, false, false, false, false, false, false, false, false, false, false, false, false, false, false, false, false, false, false, false, false, false, false, false, false, false, false, false, false]
abbrev quoinlaw03_EncAlone.m6 : Array Bool := #[true, true, true, true, true, true, false, false, false, false, false, false, false, false, false, false, false, false, false, false, false, false, false, false, false, false, false, false, false, false, false, false, false, false, false, false, false, false, false]
abbrev quoinlaw03_EncAlone.m7 : Array Bool := #[true, true, true, true, true, true, true, false, false, false, false, false, false, false, false, false, false, false, false, false, false, false, false, false, false, false, false, false, false, false, false, false, false, false, false, false, false, false, false]
abbrev quoinlaw03_EncAlone.m8 : Array Bool := #[true, true, true, true, true, true, true, true, false, false, false, false, false, false, false, false, false, false, false, false, false, false, false, false, false, false, false, false, false, false, false, false, false, false, false, false, false, false, false]
abbrev quoinlaw03_EncAlone.m9 : Array Bool := #[true, true, true, true, true, true, true, true, true, false, false, false, false, false, false, false, false, false, false, false, false, false, false, false, false, false, false, false, false, false, false, false, false, false, false, false, false, false, false]
abbrev quoinlaw03_EncAlone.m10 : Array Bool := #[true, true, true, true, true, true, true, true, true, true, false, false, false, false, false, false, false, false, false, false, false, false, false, false, false, false, false, false, false, false, false, false, false, false, false, false, false, false, false]
abbrev quoinlaw03_EncAlone.m11 : Array Bool := #[true, true, true, true, true, true, true, true, true, true, true, false, false, false, false, false, false, false, false, false, false, false, false, false, false, false, false, false, false, false, false, false, false, false, false, false, false, false, false]
abbrev quoinlaw03_EncAlone.m12 : Array Bool := #[true, true, true, true, true, true, true, true, true, true, true, true, false, false, false, false, false, false, false, false, false, false, false, false, false, false, false, false, false, false, false, false, false, false, false, false, false, false, false]
abbrev quoinlaw03_EncAlone.m13 : Array Bool := #[true, true, true, true, true, true, true, true, true, true, true, true, true, false, false, false, false, false, false, false, false, false, false, false, false, false, false, false, false, false, false, false, false, false, false, false, false, false, false]
abbrev quoinlaw03_EncAlone.m14 : Array Bool := #[true, true, true, true, true, true, true, true, true, true, true, true, true, true, false, false, false, false, false, false, false, false, false, false, false, false, false, false, false, false, false, false, false, false, false, false, false, false, false]
abbrev quoinlaw03_EncAlone.m15 : Array Bool := #[true, true, true, true, true, true, true, true, true, true, true, true, true, true, true, false, false, false, false, false, false, false, false, false, false, false, false, false, false, false, false, false, false, false, false, false, false, false, false]
abbrev quoinlaw03_EncAlone.m16 : Array Bool := #[true, true, true, true, true, true, true, true, true, true, true, true, true, true, true, true, false, false, false, false, false, false, false, false, false, false, false, false, false, false, false, false, false, false, false, false, false, false, false]
abbrev quoinlaw03_EncAlone.m17 : Array Bool := #[true, true, true, true, true, true, true, true, true, true, true, true, true, true, true, true, true, false, false, false, false, false, false, false, false, false, false, false, false, false, false, false, false, false, false, false, false, false, false]
abbrev quoinlaw03_EncAlone.m18 : Array Bool := #[true, true, true, true, true, true, true, true, true, true, true, true, true, true, true, true, true, true, false, false, false, false, false, false, false, false, false, false, false, false, false, false, false, false, false, false, false, false, false]
abbrev quoinlaw03_EncAlone.m19 : Array Bool := #[true, true, true, true, true, true, true, true, true, true, true, true, true, true, true, true, true, true, true, false, false, false, false, false, false, false, false, false, false, false, false, false, false, false, false, false, false, false, false]
abbrev quoinlaw03_EncAlone.m20 : Array Bool := #[true, true, true, true, true, true, true, true, true, true, true, true, true, true, true, true, true, true, true, true, false, false, false, false, false, false, false, false, false, false, false, false, false, false, false, false, false, false, false]
abbrev quoinlaw03_EncAlone.m21 : Array Bool := #[true, true, true, true, true, true, true, true, true, true, true, true, true, true, true, true, true, true, true, true, true, false, false, false, false, false, false, false, false, false, false, false, false, false, false, false, false, false, false]
abbrev quoinlaw03_EncAlone.m22 : Array Bool := #[true, true, true, true, true, true, true, true, true, true, true, true, true, true, true, true, true, true, true, true, true, true, false, false, false, false, false, false, false, false, false, false, false, false, false, false, false, false, false]
abbrev quoinlaw03_EncAlone.m23 : Array Bool := #[true, true, true, true, true, true, true, true, true, true, true, true, true, true, true, true, true, true, true, true, true, true, true, false, false, false, false, false, false, false, false, false, false, false, false, false, false, false, false]
abbrev quoinlaw03_EncAlone.m24 : Array Bool := #[true, true, true, true, true, true, true, true, true, true, true, true, true, true, true, true, true, true, true, true, true, true, true, true, false, false, false, false, false, false, false, false, false, false, false, false, false, false, false]
abbrev quoinlaw03_EncAlone.m25 : Array Bool := #[true, true, true, true, true, true, true, true, true, true, true, true, true, true, true, true, true, true, true, true, true, true, true, true, true, false, false, false, false, false, false, false, false, false, false, false, false, false, false]
abbrev quoinlaw03_EncAlone.m26 : Array Bool := #[true, true, true, true, true, true, true, true, true, true, true, true, true, true, true, true, true, true, true, true, true, true, true, true, true, true, false, false, false, false, false, false, false, false, false, false, false, false, false]
abbrev quoinlaw03_EncAlone.m27 : Array Bool := #[true, true, true, true, true, true, true, true, true, true, true, true, true, true, true, true, true, true, true, true, true, true, true, true, true, true, true, false, false, false, false, false, false, false, false, false, false, false, false]
abbrev quoinlaw03_EncAlone.m28 : Array Bool := #[true, true, true, true, true, true, true, true, true, true, true, true, true, true, true, true, true, true, true, true, true, true, true, true, true, true, true, true, false, false, false, false, false, false, false, false, false, false, false]
abbrev quoinlaw03_EncAlone.m29 : Array Bool := #[true, true, true, true, true, true, true, true, true, true, true, true, true, true, true, true, true, true, true, true, true, true, true, true, true, true, true, true, true, false, false, false, false, false, false, false, false, false, false]
abbrev quoinlaw03_EncAlone.m30 : Array Bool := #[true, true, true, true, true, true, true, true, true, true, true, true, true, true, true, true, true, true, true, true, true, true, true, true, true, true, true, true, true, true, false, false, false, false, false, false, false, false, false]
abbrev quoinlaw03_EncAlone.m31 : Array Bool := #[true, true, true, true, true, true, true, true, true, true, true, true, true, true, true, true, true, true, true, true, true, true, true, true, true, true, true, true, true, true, true, false, false, false, false, false, false, false, false]
abbrev quoinlaw03_EncAlone.m32 : Array Bool := #[true, true, true, true, true, true, true, true, true, true, true, true, true, true, true, true, true, true, true, true, true, true, true, true, true, true, true, true, true, true, true, true, false, false, false, false, false, false, false]
abbrev quoinlaw03_EncAlone.m33 : Array Bool := #[true, true, true, true, true, true, true, true, true, true, true, true, true, true, true, true, true, true, true, true, true, true, true, true, true, true, true, true, true, true, true, true, true, false, false, false, false, false, false]
abbrev quoinlaw03_EncAlone.m34 : Array Bool := #[true, true, true, true, true, true, true, true, true, true, true, true, true, true, true, true, true, true, true, true, true, true, true, true, true, true, true, true, true, true, true, true, true, true, false, false, false, false, false]
abbrev quoinlaw03_EncAlone.m35 : Array Bool := #[true, true, true, true, true, true, true, true, true, true, true, true, true, true, true, true, true, true, true, true, true, true, true, true, true, true, true, true, true, true, true, true, true, true, true, false, false, false, false]
abbrev quoinlaw03_EncAlone.m36 : Array Bool := #[true, true, true, true, true, true, true, true, true, true, true, true, true, true, true, true, true, true, true, true, true, true, true, true, true, true, true, true, true, true, true, true, true, true, true, true, false, false, false]
abbrev quoinlaw03_EncAlone.m37 : Array Bool := #[true, true, true, true, true, true, true, true, true, true, true, true, true, true, true, true, true, true, true, true, true, true, true, true, true, true, true, true, true, true, true, true, true, true, true, true, true, false, false]
abbrev quoinlaw03_EncAlone.m38 : Array Bool := #[true, true, true, true, true, true, true, true, true, true, true, true, true, true, true, true, true, true, true, true, true, true, true, true, true, true, true, true, true, true, true, true, true, true, true, true, true, true, false]
abbrev quoinlaw03_EncAlone.m39 : Array Bool := #[true, true, true, true, true, true, true, true, true, true, true, true, true, true, true, true, true, true, true, true, true, true, true, true, true, true, true, true, true, true, true, true, true, true, true, true, true, true, true]
abbrev quoinlaw03_EncAlone.m40 : Array Bool := #[true, true, true, true, true, true, true, true, true, true, true, true, true, true, true, true, true, true, true, true, true, true, true, true, true, true, true, true, true, true, true, true, true, false, true, false, false, false, false]
abbrev quoinlaw03_EncAlone.m41 : Array Bool := #[true, true, true, true, true, true, true, true, true, true, true, true, true, true, true, true, true, true, true, true, true, true, true, true, true, true, true, true, true, true, true, true, true, false, true, true, false, false, false]
abbrev quoinlaw03_EncAlone.m42 : Array Bool := #[true, true, true, true, true, true, true, true, true, true, true, true, true, true, true, true, true, true, true, true, true, false, true, false, false, false, false, false, false, false, false, false, false, false, false, false, false, false, false]
abbrev quoinlaw03_EncAlone.m43 : Array Bool := #[true, true, true, true, true, true, true, true, true, true, true, true, true, true, true, true, true, true, true, true, true, false, true, true, false, false, false, false, false, false, false, false, false, false, false, false, false, false, false]
abbrev quoinlaw03_EncAlone.m44 : Array Bool := #[true, true, true, true, true, true, true, true, true, false, true, false, false, false, false, false, false, false, false, false, false, false, false, false, false, false, false, false, false, false, false, false, false, false, false, false, false, false, false]
abbrev quoinlaw03_EncAlone.m45 : Array Bool := #[true, true, true, true, true, true, true, true, true, false, true, true, false, false, false, false, false, false, false, false, false, false, false, false, false, false, false, false, false, false, false, false, false, false, false, false, false, false, false]
def quoinlaw03_EncAlone.T20 : Bool × List (List Nat × List Nat) := (true, [([], []), ([], []), ([0, 1], [0, 1]), ([2], [2]), ([3], [3]), ([4, 3], [3, 4]), ([5, 3], [3, 5]), ([6, 3, 3], [3, 6]), ([7], [7]), ([8, 7, 7], [7, 8]), ([7], [7]), ([10, 7], [7, 10]), ([9, 11, 7], [7, 9, 11]), ([7, 12, 3], [3, 7, 12]), ([3, 13], [3, 13]), ([14, 9], [14]), ([15], [15]), ([16, 15], [15, 16]), ([17, 15], [15, 17]), ([18, 15, 15], [15, 18]), ([19], [19]), ([20, 19, 19], [19, 20]), ([19], [19]), ([22, 19], [19, 22]), ([21, 23, 19], [19, 21, 23]), ([19, 24, 15], [15, 19, 24]), ([15, 25], [15, 25]), ([26, 21], [26]), ([27], [27]), ([28, 27], [27, 28]), ([29, 27], [27, 29]), ([30, 27, 27], [27, 30]), ([31], [31]), ([32, 31, 31], [31, 32]), ([31], [31]), ([34, 31], [31, 34]), ([33, 35, 31], [31, 33, 35]), ([31, 36, 27], [27, 31, 36]), ([27, 37], [27, 37])])
def quoinlaw03_EncAlone.B20 : List Nat := [0, 0, 3, 7, 15, 31, 63, 127, 255, 511, 255, 1279, 4095, 8191, 16383, 32767, 65535, 131071, 262143, 524287, 1048575, 2097151, 1048575, 5242879, 16777215, 33554431, 67108863, 134217727, 268435455, 536870911, 1073741823, 2147483647, 4294967295, 8589934591, 4294967295, 21474836479, 68719476735, 137438953471, 274877906943]
theorem quoinlaw03_EncAlone.tab20 : rtab .any (opsOf Tryd.f19 20) = quoinlaw03_EncAlone.T20 := by kernel_rfl
theorem quoinlaw03_EncAlone.bits20 : waitsOk quoinlaw03_EncAlone.T20.2 quoinlaw03_EncAlone.B20 = true := by kernel_rfl
set_option maxHeartbeats 8000000 in
set_option maxRecDepth 100000 in
theorem quoinlaw03_EncAlone.calls (k : Nat) (a0_0 : Int) (a0_1 : Int) (a0_2 : Int) (a0_3 : Int) (a0_4 : Int) (a1_0 : Int) (a1_1 : Int) (a1_2 : Int) (a1_3 : Int) (a1_4 : Int) (r : Bool) (w : World) (hB : LaidB w) (h : quoinlaw03_EncAlone.f k a0_0 a0_1 a0_2 a0_3 a0_4 a1_0 a1_1 a1_2 a1_3 a1_4 = some r) :
  Calls Tryd.prog 19 #[.agg #[.int .u8 a0_0, .int .i64 a0_1, .int .i64 a0_2, .int .i64 a0_3, .int .i64 a0_4], .agg #[.int .u8 a1_0, .int .i64 a1_1, .int .i64 a1_2, .int .i64 a1_3, .int .i64 a1_4]] w fun e w' => e = .returned (.bool r) ∧ Below w.heap.size w w' := by
 have HLB := Aside0.mk hB
 clear hB
 have hu33 := Tryd.underlying33
 have HB := Aside0.mk (Below.refl w.heap.size w)
 have H : ((quoinlaw03_alive.f k).bind fun t788 => ((enc_Word.f k a0_0 a0_1 a0_2 a0_3 a0_4).bind fun bt789 => ((enc_Word.f k a1_0 a1_1 a1_2 a1_3 a1_4).bind fun bt791 => (if bt789.2 = 0 then (quoinlaw03_EncAlone.j0 k t788 bt789.1 bt789.2 bt791.1 bt791.2 (!t788) a0_0 a0_1 a0_2 a0_3 a0_4 a1_0 a1_1 a1_2 a1_3 a1_4) else (quoinlaw03_EncAlone.j0 k t788 bt789.1 bt789.2 bt791.1 bt791.2 true a0_0 a0_1 a0_2 a0_3 a0_4 a1_0 a1_1 a1_2 a1_3 a1_4))))) = some r := h
 clear h
 replace H := Option.bind_eq_some_iff.mp H
 obtain ⟨t788, A30, H⟩ := H
 have A3 := Aside0.mk A30
 clear A30
 replace H := Option.bind_eq_some_iff.mp H
 obtain ⟨⟨t789, t790⟩, A40, H⟩ := H
 have A4 := Aside0.mk A40
 clear A40
 replace H := Option.bind_eq_some_iff.mp H
 obtain ⟨⟨t791, t792⟩, A50, H⟩ := H
 have A5 := Aside0.mk A50
 clear A50
 have HC6 := Aside0.mk H
 clear H
 go_enter Tryd.func19, Tryd.ntmps19
 go_upto_region 4 with (first | ((with_reducible refine gate_dst (N := 2) rfl ?_); refine box_event ?hg (N := 2) ?hd (cs := #[.int .u8 a0_0, .int .i64 a0_1, .int .i64 a0_2, .int .i64 a0_3, .int .i64 a0_4]) (t := 33) ?hr ?_; (case hd => rfl); (case hg => rfl); (case hr => first | (go_simp; done) | (go_simp; rfl)); intro gb786 hg w7 hbox hb; have n0_ := Aside0.mk (below_step (by repeat (first | (with_reducible first | exact HB.out | apply below_alloc | apply pw_below_drewN | apply below_drew1) | exact HB.out)) hb); have n1_ := Aside0.mk (hbox); have n2_ := Aside0.mk ((by rw [hg]; exact (below_size (by repeat (first | (with_reducible first | exact HB.out | apply below_alloc | apply pw_below_drewN | apply below_drew1) | exact HB.out))) : w.heap.size ≤ gb786)); have n3_ := Aside0.mk ((by rw [hg]; exact (below_size (by repeat (first | (with_reducible first | exact HB.out | apply below_alloc | apply pw_below_drewN | apply below_drew1) | exact HB.out))) : w.heap.size ≤ gb786)); clear HB; have HB := n0_; have BK786 := n1_; have GW786 := n2_; have GE786 := n3_; clear n0_ n1_ n2_ n3_; clear hb hbox hg) | ((with_reducible refine gate_dst (N := 3) rfl ?_); refine box_event ?hg (N := 3) ?hd (cs := #[.int .u8 a1_0, .int .i64 a1_1, .int .i64 a1_2, .int .i64 a1_3, .int .i64 a1_4]) (t := 33) ?hr ?_; (case hd => rfl); (case hg => rfl); (case hr => first | (go_simp; done) | (go_simp; rfl)); intro gb787 hg w8 hbox hb; have n0_ := Aside0.mk (blk_below (g := gb786) (o := .cells #[.int .u8 a0_0, .int .i64 a0_1, .int .i64 a0_2, .int .i64 a0_3, .int .i64 a0_4] 33 (0, 0)) (by (with_reducible repeat (first | refine blk_drewN ?_ _ | refine blk_drew ?_ | refine blk_alloc ?_ _)); exact BK786.out) hb); have n1_ := Aside0.mk (below_step (by repeat (first | (with_reducible first | exact HB.out | apply below_alloc | apply pw_below_drewN | apply below_drew1 | refine below_set ?_ GE786.out) | exact HB.out)) hb); have n2_ := Aside0.mk (hbox); have n3_ := Aside0.mk ((by rw [hg]; exact (below_size (by repeat (first | (with_reducible first | exact HB.out | apply below_alloc | apply pw_below_drewN | apply below_drew1 | refine below_set ?_ GE786.out) | exact HB.out))) : w.heap.size ≤ gb787)); have n4_ := Aside0.mk ((by rw [hg]; exact (below_size (by repeat (first | (with_reducible first | exact HB.out | apply below_alloc | apply pw_below_drewN | apply below_drew1 | refine below_set ?_ GE786.out) | exact HB.out))) : w.heap.size ≤ gb787)); have n5_ := Aside0.mk ((by rw [hg]; exact Nat.ne_of_lt (blk_lt (g := gb786) (o := .cells #[.int .u8 a0_0, .int .i64 a0_1, .int .i64 a0_2, .int .i64 a0_3, .int .i64 a0_4] 33 (0, 0)) (by (with_reducible repeat (first | refine blk_drewN ?_ _ | refine blk_drew ?_ | refine blk_alloc ?_ _)); exact BK786.out)) : gb786 ≠ gb787)); have n6_ := Aside0.mk ((by rw [hg]; exact Nat.ne_of_gt (blk_lt (g := gb786) (o := .cells #[.int .u8 a0_0, .int .i64 a0_1, .int .i64 a0_2, .int .i64 a0_3, .int .i64 a0_4] 33 (0, 0)) (by (with_reducible repeat (first | refine blk_drewN ?_ _ | refine blk_drew ?_ | refine blk_alloc ?_ _)); exact BK786.out)) : gb787 ≠ gb786)); clear BK786; clear HB; have BK786 := n0_; have HB := n1_; have BK787 := n2_; have GW787 := n3_; have GE787 := n4_; have NB786_787 := n5_; have NB787_786 := n6_; clear n0_ n1_ n2_ n3_ n4_ n5_ n6_; clear hb hbox hg) | ((with_reducible refine gate_callee (f := 44) rfl ?_); refine goesL_ (some 22) rfl rfl Tryd.func44 (by kernel_rfl) rfl #[] rfl (by (try simp only [List.map_toArray, List.map_cons, List.map_nil]); first | done | rfl | (simp only [List.length_drop, List.length_take]; rfl)) ?_; (with_reducible refine (quoinlaw03_alive.calls k  t788 _ ?sideLB A3.out).mono ?_); (case sideLB => (repeat (first | exact HLB.out | (with_reducible refine LaidB.alloc ?_ _) | (with_reducible refine LaidB.drewN ?_ _) | (with_reducible refine LaidB.drew ?_) | (refine LaidB.below HLB.out ?_; repeat (first | (with_reducible first | exact HB.out | apply below_alloc | apply pw_below_drewN | apply below_drew1 | refine below_set ?_ GE786.out | refine below_set ?_ GE787.out) | exact HB.out))))); rintro e w9 ⟨rfl, hb⟩; refine ⟨_, rfl, ?_⟩; have n0_ := Aside0.mk (blk_below (g := gb786) (o := .cells #[.int .u8 a0_0, .int .i64 a0_1, .int .i64 a0_2, .int .i64 a0_3, .int .i64 a0_4] 33 (0, 0)) (by (with_reducible repeat (first | refine blk_drewN ?_ _ | refine blk_drew ?_ | refine blk_alloc ?_ _)); exact BK786.out) hb); have n1_ := Aside0.mk (blk_below (g := gb787) (o := .cells #[.int .u8 a1_0, .int .i64 a1_1, .int .i64 a1_2, .int .i64 a1_3, .int .i64 a1_4] 33 (0, 0)) (by (with_reducible repeat (first | refine blk_drewN ?_ _ | refine blk_drew ?_ | refine blk_alloc ?_ _)); exact BK787.out) hb); have n2_ := Aside0.mk (below_step (by repeat (first | (with_reducible first | exact HB.out | apply below_alloc | apply pw_below_drewN | apply below_drew1 | refine below_set ?_ GE786.out | refine below_set ?_ GE787.out) | exact HB.out)) hb); clear BK786; clear BK787; clear HB; have BK786 := n0_; have BK787 := n1_; have HB := n2_; clear n0_ n1_ n2_; (try clear hb); (try clear hb2); (try clear hk); (try clear hi); have hnb10 := NB786_787.out; have hnc10 := NB787_786.out; have hcz11_0 : w9.cell? ⟨gb786, 0, none⟩ = some (.int .u8 a0_0) := (blk_cell BK786.out 0).trans rfl; have hcz11_1 : w9.cell? ⟨gb786, 1, none⟩ = some (.int .i64 a0_1) := (blk_cell BK786.out 1).trans rfl; have hcz11_2 : w9.cell? ⟨gb786, 2, none⟩ = some (.int .i64 a0_2) := (blk_cell BK786.out 2).trans rfl; have hcz11_3 : w9.cell? ⟨gb786, 3, none⟩ = some (.int .i64 a0_3) := (blk_cell BK786.out 3).trans rfl; have hcz11_4 : w9.cell? ⟨gb786, 4, none⟩ = some (.int .i64 a0_4) := (blk_cell BK786.out 4).trans rfl; have hfz11_0 := blk_frozen BK786.out 0; have hfz11_1 := blk_frozen BK786.out 1; have hfz11_2 := blk_frozen BK786.out 2; have hfz11_3 := blk_frozen BK786.out 3; have hfz11_4 := blk_frozen BK786.out 4) | ((with_reducible refine gate_callee (f := 26) rfl ?_); refine goesL_ (some 25) rfl rfl Tryd.func26 (by kernel_rfl) rfl #[.agg #[.int .u8 a0_0, .int .i64 a0_1, .int .i64 a0_2, .int .i64 a0_3, .int .i64 a0_4]] rfl (by (try simp only [List.map_toArray, List.map_cons, List.map_nil]); first | done | rfl | (simp only [List.length_drop, List.length_take]; rfl)) ?_; (with_reducible refine (enc_Word.calls k a0_0 a0_1 a0_2 a0_3 a0_4 t789 t790 _ ?sideLB A4.out).mono ?_); (case sideLB => (repeat (first | exact HLB.out | (with_reducible refine LaidB.alloc ?_ _) | (with_reducible refine LaidB.drewN ?_ _) | (with_reducible refine LaidB.drew ?_) | (refine LaidB.below HLB.out ?_; repeat (first | (with_reducible first | exact HB.out | apply below_alloc | apply pw_below_drewN | apply below_drew1 | refine below_set ?_ GE786.out | refine below_set ?_ GE787.out) | exact HB.out))))); rintro e w12 ⟨rfl, hb⟩; refine ⟨_, rfl, ?_⟩; have n0_ := Aside0.mk (blk_below (g := gb786) (o := .cells #[.int .u8 a0_0, .int .i64 a0_1, .int .i64 a0_2, .int .i64 a0_3, .int .i64 a0_4] 33 (0, 0)) (by (with_reducible repeat (first | refine blk_drewN ?_ _ | refine blk_drew ?_ | refine blk_alloc ?_ _)); exact BK786.out) hb); have n1_ := Aside0.mk (blk_below (g := gb787) (o := .cells #[.int .u8 a1_0, .int .i64 a1_1, .int .i64 a1_2, .int .i64 a1_3, .int .i64 a1_4] 33 (0, 0)) (by (with_reducible repeat (first | refine blk_drewN ?_ _ | refine blk_drew ?_ | refine blk_alloc ?_ _)); exact BK787.out) hb); have n2_ := Aside0.mk (below_step (by repeat (first | (with_reducible first | exact HB.out | apply below_alloc | apply pw_below_drewN | apply below_drew1 | refine below_set ?_ GE786.out | refine below_set ?_ GE787.out) | exact HB.out)) hb); clear BK786; clear BK787; clear HB; have BK786 := n0_; have BK787 := n1_; have HB := n2_; clear n0_ n1_ n2_; (try clear hb); (try clear hb2); (try clear hk); (try clear hi); have hcz13_0 : w12.cell? ⟨gb787, 0, none⟩ = some (.int .u8 a1_0) := (blk_cell BK787.out 0).trans rfl; have hcz13_1 : w12.cell? ⟨gb787, 1, none⟩ = some (.int .i64 a1_1) := (blk_cell BK787.out 1).trans rfl; have hcz13_2 : w12.cell? ⟨gb787, 2, none⟩ = some (.int .i64 a1_2) := (blk_cell BK787.out 2).trans rfl; have hcz13_3 : w12.cell? ⟨gb787, 3, none⟩ = some (.int .i64 a1_3) := (blk_cell BK787.out 3).trans rfl; have hcz13_4 : w12.cell? ⟨gb787, 4, none⟩ = some (.int .i64 a1_4) := (blk_cell BK787.out 4).trans rfl; have hfz13_0 := blk_frozen BK787.out 0; have hfz13_1 := blk_frozen BK787.out 1; have hfz13_2 := blk_frozen BK787.out 2; have hfz13_3 := blk_frozen BK787.out 3; have hfz13_4 := blk_frozen BK787.out 4) | ((with_reducible refine gate_callee (f := 26) rfl ?_); refine goesL_ (some 30) rfl rfl Tryd.func26 (by kernel_rfl) rfl #[.agg #[.int .u8 a1_0, .int .i64 a1_1, .int .i64 a1_2, .int .i64 a1_3, .int .i64 a1_4]] rfl (by (try simp only [List.map_toArray, List.map_cons, List.map_nil]); first | done | rfl | (simp only [List.length_drop, List.length_take]; rfl)) ?_; (with_reducible refine (enc_Word.calls k a1_0 a1_1 a1_2 a1_3 a1_4 t791 t792 _ ?sideLB A5.out).mono ?_); (case sideLB => (repeat (first | exact HLB.out | (with_reducible refine LaidB.alloc ?_ _) | (with_reducible refine LaidB.drewN ?_ _) | (with_reducible refine LaidB.drew ?_) | (refine LaidB.below HLB.out ?_; repeat (first | (with_reducible first | exact HB.out | apply below_alloc | apply pw_below_drewN | apply below_drew1 | refine below_set ?_ GE786.out | refine below_set ?_ GE787.out) | exact HB.out))))); rintro e w14 ⟨rfl, hb⟩; refine ⟨_, rfl, ?_⟩; have n0_ := Aside0.mk (blk_below (g := gb786) (o := .cells #[.int .u8 a0_0, .int .i64 a0_1, .int .i64 a0_2, .int .i64 a0_3, .int .i64 a0_4] 33 (0, 0)) (by (with_reducible repeat (first | refine blk_drewN ?_ _ | refine blk_drew ?_ | refine blk_alloc ?_ _)); exact BK786.out) hb); have n1_ := Aside0.mk (blk_below (g := gb787) (o := .cells #[.int .u8 a1_0, .int .i64 a1_1, .int .i64 a1_2, .int .i64 a1_3, .int .i64 a1_4] 33 (0, 0)) (by (with_reducible repeat (first | refine blk_drewN ?_ _ | refine blk_drew ?_ | refine blk_alloc ?_ _)); exact BK787.out) hb); have n2_ := Aside0.mk (below_step (by repeat (first | (with_reducible first | exact HB.out | apply below_alloc | apply pw_below_drewN | apply below_drew1 | refine below_set ?_ GE786.out | refine below_set ?_ GE787.out) | exact HB.out)) hb); clear BK786; clear BK787; clear HB; have BK786 := n0_; have BK787 := n1_; have HB := n2_; clear n0_ n1_ n2_; (try clear hb); (try clear hb2); (try clear hk); (try clear hi)))
 (try simp only [Act.put, List.setIfInBounds_toArray, List.set_cons_zero, List.set_cons_succ])
 go_cut [38] (fun v38 wc => ∃ (kq : Nat) (x38_5 : Bool), v38 = .bool x38_5 ∧ Aside0 (quoinlaw03_EncAlone.j0 kq t788 t789 t790 t791 t792 x38_5 a0_0 a0_1 a0_2 a0_3 a0_4 a1_0 a1_1 a1_2 a1_3 a1_4 = some r) ∧ Aside0 (kq ≤ k) ∧ Aside0 (wc.heap[gb786]? = some (.cells #[.int .u8 a0_0, .int .i64 a0_1, .int .i64 a0_2, .int .i64 a0_3, .int .i64 a0_4] 33 (0, 0))) ∧ Aside0 (wc.heap[gb787]? = some (.cells #[.int .u8 a1_0, .int .i64 a1_1, .int .i64 a1_2, .int .i64 a1_3, .int .i64 a1_4] 33 (0, 0))) ∧ Aside0 (Below w.heap.size w wc))
 case first =>
  have H := HC6.out
  clear HC6
  by_cases c15 : t790 = 0
  ·rw [if_pos c15] at H
   have c15b0 : (t790 == 0) = true := beq_iff_eq.mpr c15
   have c15b1 : (t790 != 0) = false := bne_eq_false_iff_eq.mpr c15
   clear c15
   (first | rw [c15b0] | (simp only [i64_w, i32_w]; rw [c15b0]) | rw [c15b1] | skip)
   have H' := Aside0.mk H
   clear H
   go_wp2
   go_meet
   case rel => exact ⟨_, (!t788), (by first | rfl | (simp; done) | (simp only [i64_w, i32_w]; first | done | rfl | (simp; done)) | (simp [*]; done)), H', ⟨by first | omega | exact Nat.le_refl _⟩, ⟨by (with_reducible repeat (first | refine blk_drewN ?_ _ | refine blk_drew ?_ | refine blk_alloc ?_ _)); exact BK786.out⟩, ⟨by (with_reducible repeat (first | refine blk_drewN ?_ _ | refine blk_drew ?_ | refine blk_alloc ?_ _)); exact BK787.out⟩, ⟨by repeat (first | (with_reducible first | exact HB.out | apply below_alloc | apply pw_below_drewN | apply below_drew1 | refine below_set ?_ GE786.out | refine below_set ?_ GE787.out) | exact HB.out)⟩⟩
  ·rw [if_neg c15] at H
   have c15b0 : (t790 == 0) = false := beq_eq_false_iff_ne.mpr c15
   have c15b1 : (t790 != 0) = true := bne_iff_ne.mpr c15
   (first | rw [c15b0] | (simp only [i64_w, i32_w]; rw [c15b0]) | rw [c15b1] | skip)
   have H' := Aside0.mk H
   clear H
   go_wp2
   go_meet
   case rel => exact ⟨_, (true), (by first | rfl | (simp; done) | (simp only [i64_w, i32_w]; first | done | rfl | (simp; done)) | (simp [*]; done)), H', ⟨by first | omega | exact Nat.le_refl _⟩, ⟨by (with_reducible repeat (first | refine blk_drewN ?_ _ | refine blk_drew ?_ | refine blk_alloc ?_ _)); exact BK786.out⟩, ⟨by (with_reducible repeat (first | refine blk_drewN ?_ _ | refine blk_drew ?_ | refine blk_alloc ?_ _)); exact BK787.out⟩, ⟨by repeat (first | (with_reducible first | exact HB.out | apply below_alloc | apply pw_below_drewN | apply below_drew1 | refine below_set ?_ GE786.out | refine below_set ?_ GE787.out) | exact HB.out)⟩⟩
 case rest => as_aux_lemma =>
  clear HC6
  try clear c1
  try clear c2
  try clear p2
  try clear c4
  try clear c10
  try clear c15
  try clear c15b0
  try clear c15b1
  try clear hcz11_0
  try clear hcz11_1
  try clear hcz11_2
  try clear hcz11_3
  try clear hcz11_4
  try clear hcz13_0
  try clear hcz13_1
  try clear hcz13_2
  try clear hcz13_3
  try clear hcz13_4
  try clear hfz11_0
  try clear hfz11_1
  try clear hfz11_2
  try clear hfz11_3
  try clear hfz11_4
  try clear hfz13_0
  try clear hfz13_1
  try clear hfz13_2
  try clear hfz13_3
  try clear hfz13_4
  obtain ⟨kq, x38_5, rfl, HA, HJ5, BK786, BK787, HB⟩ := hcut
  cases kq with
  | zero => exact absurd HA.out (by simp [quoinlaw03_EncAlone.j0])
  | succ kj5 =>
   have H := HA.out
   clear HA
   simp only [quoinlaw03_EncAlone.j0] at H
   by_cases c16 : x38_5 = true
   ·subst c16
    have H1 : (if t788 = true then (if t789 = 0 then ((insn_Check.f kj5 a0_0 a0_1 a0_2 a0_3 a0_4).bind fun t793 => (some (t793 == t790))) else (none)) else (none)) = some r := by rw [if_pos rfl] at H; exact H
    clear H
    have H := H1
    clear H1
    by_cases c17 : t788 = true
    ·subst c17
     have H1 : (if t789 = 0 then ((insn_Check.f kj5 a0_0 a0_1 a0_2 a0_3 a0_4).bind fun t793 => (some (t793 == t790))) else (none)) = some r := by rw [if_pos rfl] at H; exact H
     clear H
     have H := H1
     clear H1
     by_cases c18 : t789 = 0
     ·rw [if_pos c18] at H
      have c18b0 : (t789 == 0) = true := beq_iff_eq.mpr c18
      have c18b1 : (t789 != 0) = false := bne_eq_false_iff_eq.mpr c18
      clear c18
      replace H := Option.bind_eq_some_iff.mp H
      obtain ⟨t793, A190, H⟩ := H
      have A19 := Aside0.mk A190
      clear A190
      obtain rfl := Option.some.inj H
      have hnb20 := NB786_787.out
      have hnc20 := NB787_786.out
      have hcz21_0 : wc.cell? ⟨gb786, 0, none⟩ = some (.int .u8 a0_0) := (blk_cell BK786.out 0).trans rfl
      have hcz21_1 : wc.cell? ⟨gb786, 1, none⟩ = some (.int .i64 a0_1) := (blk_cell BK786.out 1).trans rfl
      have hcz21_2 : wc.cell? ⟨gb786, 2, none⟩ = some (.int .i64 a0_2) := (blk_cell BK786.out 2).trans rfl
      have hcz21_3 : wc.cell? ⟨gb786, 3, none⟩ = some (.int .i64 a0_3) := (blk_cell BK786.out 3).trans rfl
      have hcz21_4 : wc.cell? ⟨gb786, 4, none⟩ = some (.int .i64 a0_4) := (blk_cell BK786.out 4).trans rfl
      have hfz21_0 := blk_frozen BK786.out 0
      have hfz21_1 := blk_frozen BK786.out 1
      have hfz21_2 := blk_frozen BK786.out 2
      have hfz21_3 := blk_frozen BK786.out 3
      have hfz21_4 := blk_frozen BK786.out 4
      go_wp2_with (first | (go_at_call 28; (with_reducible refine (insn_Check.calls kj5 a0_0 a0_1 a0_2 a0_3 a0_4 t793 _ A19.out).mono ?_); rintro e w22 ⟨rfl, hb⟩; have n0_ := Aside0.mk (blk_below (g := gb786) (o := .cells #[.int .u8 a0_0, .int .i64 a0_1, .int .i64 a0_2, .int .i64 a0_3, .int .i64 a0_4] 33 (0, 0)) (by (with_reducible repeat (first | refine blk_drewN ?_ _ | refine blk_drew ?_ | refine blk_alloc ?_ _)); exact BK786.out) hb); have n1_ := Aside0.mk (blk_below (g := gb787) (o := .cells #[.int .u8 a1_0, .int .i64 a1_1, .int .i64 a1_2, .int .i64 a1_3, .int .i64 a1_4] 33 (0, 0)) (by (with_reducible repeat (first | refine blk_drewN ?_ _ | refine blk_drew ?_ | refine blk_alloc ?_ _)); exact BK787.out) hb); have n2_ := Aside0.mk (below_step (by repeat (first | (with_reducible first | exact HB.out | apply below_alloc | apply pw_below_drewN | apply below_drew1 | refine below_set ?_ GE786.out | refine below_set ?_ GE787.out) | exact HB.out)) hb); clear BK786; clear BK787; clear HB; have BK786 := n0_; have BK787 := n1_; have HB := n2_; clear n0_ n1_ n2_; (try clear hb); (try clear hb2); (try clear hk); (try clear hi)))
      go_ret
      exact ⟨by first | rfl | (simp [errW_none, errW_some] <;> rfl) | (simp [*, errW_none, errW_some] <;> rfl), by repeat (first | (with_reducible first | exact HB.out | apply below_alloc | apply pw_below_drewN | apply below_drew1 | refine below_set ?_ GE786.out | refine below_set ?_ GE787.out) | exact HB.out)⟩
     ·rw [if_neg c18] at H
      exact absurd H (by simp)
    ·replace c17 := Bool.eq_false_iff.mpr c17
     subst c17
     have H1 : (none) = some r := by rw [if_neg (show ¬ (false = true) by decide)] at H; exact H
     clear H
     have H := H1
     clear H1
     exact absurd H (by simp)
   ·replace c16 := Bool.eq_false_iff.mpr c16
    subst c16
    have H1 : (if t792 = 0 then (quoinlaw03_EncAlone.j1 kj5 t789 ((t789 == t791) != (a0_0 == a1_0 && (a0_1 == a1_1 && (a0_2 == a1_2 && (a0_3 == a1_3 && (a0_4 == a1_4)))))) a0_0 a0_1 a0_2 a0_3 a0_4) else (quoinlaw03_EncAlone.j1 kj5 t789 false a0_0 a0_1 a0_2 a0_3 a0_4)) = some r := by rw [if_neg (show ¬ (false = true) by decide)] at H; exact H
    clear H
    have H := H1
    clear H1
    have HC23 := Aside0.mk H
    clear H
    go_upto_region 6 with (fail)
    go_cut [60] (fun v60 wc => ∃ (kq : Nat) (x60_22 : Bool), v60 = .bool x60_22 ∧ Aside0 (quoinlaw03_EncAlone.j1 kq t789 x60_22 a0_0 a0_1 a0_2 a0_3 a0_4 = some r) ∧ Aside0 (kq ≤ kj5) ∧ Aside0 (wc.heap[gb786]? = some (.cells #[.int .u8 a0_0, .int .i64 a0_1, .int .i64 a0_2, .int .i64 a0_3, .int .i64 a0_4] 33 (0, 0))) ∧ Aside0 (wc.heap[gb787]? = some (.cells #[.int .u8 a1_0, .int .i64 a1_1, .int .i64 a1_2, .int .i64 a1_3, .int .i64 a1_4] 33 (0, 0))) ∧ Aside0 (Below w.heap.size w wc))
    case first =>
     have H := HC23.out
     clear HC23
     by_cases c24 : t792 = 0
     ·rw [if_pos c24] at H
      have c24b0 : (t792 == 0) = true := beq_iff_eq.mpr c24
      have c24b1 : (t792 != 0) = false := bne_eq_false_iff_eq.mpr c24
      clear c24
      (first | rw [c24b0] | (simp only [i64_w, i32_w]; rw [c24b0]) | rw [c24b1] | skip)
      have H' := Aside0.mk H
      clear H
      have hnb25 := NB786_787.out
      have hnc25 := NB787_786.out
      have hcz26_0 : wc.cell? ⟨gb786, 0, none⟩ = some (.int .u8 a0_0) := (blk_cell BK786.out 0).trans rfl
      have hcz26_1 : wc.cell? ⟨gb786, 1, none⟩ = some (.int .i64 a0_1) := (blk_cell BK786.out 1).trans rfl
      have hcz26_2 : wc.cell? ⟨gb786, 2, none⟩ = some (.int .i64 a0_2) := (blk_cell BK786.out 2).trans rfl
      have hcz26_3 : wc.cell? ⟨gb786, 3, none⟩ = some (.int .i64 a0_3) := (blk_cell BK786.out 3).trans rfl
      have hcz26_4 : wc.cell? ⟨gb786, 4, none⟩ = some (.int .i64 a0_4) := (blk_cell BK786.out 4).trans rfl
      have hfz26_0 := blk_frozen BK786.out 0
      have hfz26_1 := blk_frozen BK786.out 1
      have hfz26_2 := blk_frozen BK786.out 2
      have hfz26_3 := blk_frozen BK786.out 3
      have hfz26_4 := blk_frozen BK786.out 4
      have hcz27_0 : wc.cell? ⟨gb787, 0, none⟩ = some (.int .u8 a1_0) := (blk_cell BK787.out 0).trans rfl
      have hcz27_1 : wc.cell? ⟨gb787, 1, none⟩ = some (.int .i64 a1_1) := (blk_cell BK787.out 1).trans rfl
      have hcz27_2 : wc.cell? ⟨gb787, 2, none⟩ = some (.int .i64 a1_2) := (blk_cell BK787.out 2).trans rfl
      have hcz27_3 : wc.cell? ⟨gb787, 3, none⟩ = some (.int .i64 a1_3) := (blk_cell BK787.out 3).trans rfl
      have hcz27_4 : wc.cell? ⟨gb787, 4, none⟩ = some (.int .i64 a1_4) := (blk_cell BK787.out 4).trans rfl
      have hfz27_0 := blk_frozen BK787.out 0
      have hfz27_1 := blk_frozen BK787.out 1
      have hfz27_2 := blk_frozen BK787.out 2
      have hfz27_3 := blk_frozen BK787.out 3
      have hfz27_4 := blk_frozen BK787.out 4
      go_wp2
      go_meet
      case rel => exact ⟨_, (((t789 == t791) != (a0_0 == a1_0 && (a0_1 == a1_1 && (a0_2 == a1_2 && (a0_3 == a1_3 && (a0_4 == a1_4))))))), (by first | rfl | (simp; done) | (simp only [i64_w, i32_w]; first | done | rfl | (simp; done)) | (simp [*]; done)), H', ⟨by have := HJ5.out; first | omega | exact Nat.le_refl _⟩, ⟨by (with_reducible repeat (first | refine blk_drewN ?_ _ | refine blk_drew ?_ | refine blk_alloc ?_ _)); exact BK786.out⟩, ⟨by (with_reducible repeat (first | refine blk_drewN ?_ _ | refine blk_drew ?_ | refine blk_alloc ?_ _)); exact BK787.out⟩, ⟨by repeat (first | (with_reducible first | exact HB.out | apply below_alloc | apply pw_below_drewN | apply below_drew1 | refine below_set ?_ GE786.out | refine below_set ?_ GE787.out) | exact HB.out)⟩⟩
     ·rw [if_neg c24] at H
      have c24b0 : (t792 == 0) = false := beq_eq_false_iff_ne.mpr c24
      have c24b1 : (t792 != 0) = true := bne_iff_ne.mpr c24
      (first | rw [c24b0] | (simp only [i64_w, i32_w]; rw [c24b0]) | rw [c24b1] | skip)
      have H' := Aside0.mk H
      clear H
      go_wp2
      go_meet
      case rel => exact ⟨_, (false), (by first | rfl | (simp; done) | (simp only [i64_w, i32_w]; first | done | rfl | (simp; done)) | (simp [*]; done)), H', ⟨by have := HJ5.out; first | omega | exact Nat.le_refl _⟩, ⟨by (with_reducible repeat (first | refine blk_drewN ?_ _ | refine blk_drew ?_ | refine blk_alloc ?_ _)); exact BK786.out⟩, ⟨by (with_reducible repeat (first | refine blk_drewN ?_ _ | refine blk_drew ?_ | refine blk_alloc ?_ _)); exact BK787.out⟩, ⟨by repeat (first | (with_reducible first | exact HB.out | apply below_alloc | apply pw_below_drewN | apply below_drew1 | refine below_set ?_ GE786.out | refine below_set ?_ GE787.out) | exact HB.out)⟩⟩
    case rest => as_aux_lemma =>
     clear HC23
     try clear c1
     try clear c2
     try clear p2
     try clear c4
     try clear c10
     try clear c15
     try clear c15b0
     try clear c15b1
     try clear c16
     try clear c17
     try clear c18
     try clear c18b0
     try clear c18b1
     try clear c19
     try clear c20
     try clear c24
     try clear c24b0
     try clear c24b1
     try clear c25
     try clear c26
     try clear hcz11_0
     try clear hcz11_1
     try clear hcz11_2
     try clear hcz11_3
     try clear hcz11_4
     try clear hcz13_0
     try clear hcz13_1
     try clear hcz13_2
     try clear hcz13_3
     try clear hcz13_4
     try clear hcz21_0
     try clear hcz21_1
     try clear hcz21_2
     try clear hcz21_3
     try clear hcz21_4
     try clear hcz26_0
     try clear hcz26_1
     try clear hcz26_2
     try clear hcz26_3
     try clear hcz26_4
     try clear hcz27_0
     try clear hcz27_1
     try clear hcz27_2
     try clear hcz27_3
     try clear hcz27_4
     try clear hfz11_0
     try clear hfz11_1
     try clear hfz11_2
     try clear hfz11_3
     try clear hfz11_4
     try clear hfz13_0
     try clear hfz13_1
     try clear hfz13_2
     try clear hfz13_3
     try clear hfz13_4
     try clear hfz21_0
     try clear hfz21_1
     try clear hfz21_2
     try clear hfz21_3
     try clear hfz21_4
     try clear hfz26_0
     try clear hfz26_1
     try clear hfz26_2
     try clear hfz26_3
     try clear hfz26_4
     try clear hfz27_0
     try clear hfz27_1
     try clear hfz27_2
     try clear hfz27_3
     try clear hfz27_4
     try clear p2
     obtain ⟨kq, x60_22, rfl, HA, HJ22, BK786, BK787, HB⟩ := hcut
     cases kq with
     | zero => exact absurd HA.out (by simp [quoinlaw03_EncAlone.j1])
     | succ kj22 =>
      have H := HA.out
      clear HA
      simp only [quoinlaw03_EncAlone.j1] at H
      by_cases c28 : x60_22 = true
      ·subst c28
       have H1 : (none) = some r := by rw [if_pos rfl] at H; exact H
       clear H
       have H := H1
       clear H1
       exact absurd H (by simp)
      ·replace c28 := Bool.eq_false_iff.mpr c28
       subst c28
       have H1 : ((insn_Form.f a0_0).bind fun bt794 => ((enc_Base.f a0_0).bind fun bt796 => ((enc_Places.f kj22 bt794.1).bind fun bt798 => ((bits_Gather.f kj22 t789 bt798.1).bind fun bt802 => (if bt794.2 = 0 then (if bt796.2 = 0 then (if bt798.2 = 0 then (quoinlaw03_EncAlone.j2 kj22 t789 bt794.1 bt796.1 bt798.1 bt802.1 (bt802.2 != 0) a0_0 a0_1 a0_2 a0_3 a0_4) else (quoinlaw03_EncAlone.j2 kj22 t789 bt794.1 bt796.1 bt798.1 bt802.1 true a0_0 a0_1 a0_2 a0_3 a0_4)) else (quoinlaw03_EncAlone.j2 kj22 t789 bt794.1 bt796.1 bt798.1 bt802.1 true a0_0 a0_1 a0_2 a0_3 a0_4)) else (quoinlaw03_EncAlone.j2 kj22 t789 bt794.1 bt796.1 bt798.1 bt802.1 true a0_0 a0_1 a0_2 a0_3 a0_4)))))) = some r := by rw [if_neg (show ¬ (false = true) by decide)] at H; exact H
       clear H
       have H := H1
       clear H1
       replace H := Option.bind_eq_some_iff.mp H
       obtain ⟨⟨t794, t795⟩, A290, H⟩ := H
       have A29 := Aside0.mk A290
       clear A290
       replace H := Option.bind_eq_some_iff.mp H
       obtain ⟨⟨t796, t797⟩, A300, H⟩ := H
       have A30 := Aside0.mk A300
       clear A300
       replace H := Option.bind_eq_some_iff.mp H
       obtain ⟨⟨t798, t799⟩, A310, H⟩ := H
       have A31 := Aside0.mk A310
       clear A310
       replace H := Option.bind_eq_some_iff.mp H
       obtain ⟨⟨t802, t803⟩, A320, H⟩ := H
       have A32 := Aside0.mk A320
       clear A320
       have HC33 := Aside0.mk H
       clear H
       have hnb34 := NB786_787.out
       have hnc34 := NB787_786.out
       have hcz35_0 : wc.cell? ⟨gb786, 0, none⟩ = some (.int .u8 a0_0) := (blk_cell BK786.out 0).trans rfl
       have hcz35_1 : wc.cell? ⟨gb786, 1, none⟩ = some (.int .i64 a0_1) := (blk_cell BK786.out 1).trans rfl
       have hcz35_2 : wc.cell? ⟨gb786, 2, none⟩ = some (.int .i64 a0_2) := (blk_cell BK786.out 2).trans rfl
       have hcz35_3 : wc.cell? ⟨gb786, 3, none⟩ = some (.int .i64 a0_3) := (blk_cell BK786.out 3).trans rfl
       have hcz35_4 : wc.cell? ⟨gb786, 4, none⟩ = some (.int .i64 a0_4) := (blk_cell BK786.out 4).trans rfl
       have hfz35_0 := blk_frozen BK786.out 0
       have hfz35_1 := blk_frozen BK786.out 1
       have hfz35_2 := blk_frozen BK786.out 2
       have hfz35_3 := blk_frozen BK786.out 3
       have hfz35_4 := blk_frozen BK786.out 4
       go_upto_region 12 with (first | ((with_reducible refine gate_callee (f := 23) rfl ?_); refine goesL_ (some 64) rfl rfl Tryd.func23 (by kernel_rfl) rfl #[.int .u8 a0_0] rfl (by (try simp only [List.map_toArray, List.map_cons, List.map_nil]); first | done | rfl | (simp only [List.length_drop, List.length_take]; rfl)) ?_; (with_reducible refine (insn_Form.calls a0_0 t794 t795 _ A29.out).mono ?_); rintro e w' ⟨rfl, ⟨nd, rfl⟩⟩; refine ⟨_, rfl, ?_⟩) | ((with_reducible refine gate_callee (f := 30) rfl ?_); refine goesL_ (some 70) rfl rfl Tryd.func30 (by kernel_rfl) rfl #[.int .u8 a0_0] rfl (by (try simp only [List.map_toArray, List.map_cons, List.map_nil]); first | done | rfl | (simp only [List.length_drop, List.length_take]; rfl)) ?_; (with_reducible refine (enc_Base.calls a0_0 t796 t797 _ ?sideLB A30.out).mono ?_); (case sideLB => (repeat (first | exact HLB.out | (with_reducible refine LaidB.alloc ?_ _) | (with_reducible refine LaidB.drewN ?_ _) | (with_reducible refine LaidB.drew ?_) | (refine LaidB.below HLB.out ?_; repeat (first | (with_reducible first | exact HB.out | apply below_alloc | apply pw_below_drewN | apply below_drew1 | refine below_set ?_ GE786.out | refine below_set ?_ GE787.out) | exact HB.out))))); rintro e w' ⟨rfl, ⟨nd, rfl⟩⟩; refine ⟨_, rfl, ?_⟩) | ((with_reducible refine gate_callee (f := 43) rfl ?_); refine goesL_ (some 75) rfl rfl Tryd.func43 (by kernel_rfl) rfl #[.int .u8 t794] rfl (by (try simp only [List.map_toArray, List.map_cons, List.map_nil]); first | done | rfl | (simp only [List.length_drop, List.length_take]; rfl)) ?_; (with_reducible refine (enc_Places.calls kj22 t794 t798 t799 _ A31.out).mono ?_); rintro e w36 ⟨v800, rfl, ho0, hb⟩; refine ⟨_, rfl, ?_⟩; have n0_ := Aside0.mk (Kd.R_lower ho0 (below_size (by repeat (first | (with_reducible first | exact HB.out | apply below_alloc | apply pw_below_drewN | apply below_drew1 | refine below_set ?_ GE786.out | refine below_set ?_ GE787.out) | exact HB.out)))); have n1_ := Aside0.mk (blk_below (g := gb786) (o := .cells #[.int .u8 a0_0, .int .i64 a0_1, .int .i64 a0_2, .int .i64 a0_3, .int .i64 a0_4] 33 (0, 0)) (by (with_reducible repeat (first | refine blk_drewN ?_ _ | refine blk_drew ?_ | refine blk_alloc ?_ _)); exact BK786.out) hb); have n2_ := Aside0.mk (blk_below (g := gb787) (o := .cells #[.int .u8 a1_0, .int .i64 a1_1, .int .i64 a1_2, .int .i64 a1_3, .int .i64 a1_4] 33 (0, 0)) (by (with_reducible repeat (first | refine blk_drewN ?_ _ | refine blk_drew ?_ | refine blk_alloc ?_ _)); exact BK787.out) hb); have n3_ := Aside0.mk (below_step (by repeat (first | (with_reducible first | exact HB.out | apply below_alloc | apply pw_below_drewN | apply below_drew1 | refine below_set ?_ GE786.out | refine below_set ?_ GE787.out) | exact HB.out)) hb); clear BK786; clear BK787; clear HB; have HO801 := n0_; have BK786 := n1_; have BK787 := n2_; have HB := n3_; clear n0_ n1_ n2_ n3_; (try clear hb); (try clear hb2); (try clear hk); (try clear hi); (try clear ho0); obtain ⟨Ao37, co37, eo37⟩ := Kd.R_slice HO801.out; subst eo37) | ((with_reducible refine gate_callee (f := 52) rfl ?_); refine goesL_ (some 81) rfl rfl Tryd.func52 (by kernel_rfl) rfl #[.int .u32 t789, .slice Ao37 t798.length co37] rfl (by (try simp only [List.map_toArray, List.map_cons, List.map_nil]); first | done | rfl | (simp only [List.length_drop, List.length_take]; rfl)) ?_; (with_reducible refine (bits_Gather.calls kj22 t789 _ _ t798 t802 t803 _ ?side1 ?side2 A32.out).mono ?_); (case side1 => repeat (first | exact (Kd.R_reads' HO801.out).2.2 | (with_reducible refine Kd.C_alloc ?_ _) | (with_reducible refine Kd.C_drewN ?_ _) | (with_reducible refine Kd.C_drew ?_))); (case side2 => exact (Kd.R_reads' HO801.out).2.1); rintro e w' ⟨rfl, ⟨nd, rfl⟩⟩; refine ⟨_, rfl, ?_⟩))
       (try simp only [Act.put, List.setIfInBounds_toArray, List.set_cons_zero, List.set_cons_succ])
       go_cut [97] (fun v97 wc => ∃ (kq : Nat) (x97_32 : Bool), v97 = .bool x97_32 ∧ Aside0 (quoinlaw03_EncAlone.j2 kq t789 t794 t796 t798 t802 x97_32 a0_0 a0_1 a0_2 a0_3 a0_4 = some r) ∧ Aside0 (kq ≤ kj22) ∧ Aside0 (Kd.R (Kd.int .i64) 3 wc w.heap.size (fun _ => True) (.slice Ao37 t798.length co37) t798) ∧ Aside0 (wc.heap[gb786]? = some (.cells #[.int .u8 a0_0, .int .i64 a0_1, .int .i64 a0_2, .int .i64 a0_3, .int .i64 a0_4] 33 (0, 0))) ∧ Aside0 (wc.heap[gb787]? = some (.cells #[.int .u8 a1_0, .int .i64 a1_1, .int .i64 a1_2, .int .i64 a1_3, .int .i64 a1_4] 33 (0, 0))) ∧ Aside0 (Below w.heap.size w wc))
       case first =>
        have H := HC33.out
        clear HC33
        by_cases c38 : t795 = 0
        ·rw [if_pos c38] at H
         have c38b0 : (t795 == 0) = true := beq_iff_eq.mpr c38
         have c38b1 : (t795 != 0) = false := bne_eq_false_iff_eq.mpr c38
         clear c38
         (first | rw [c38b0] | (simp only [i64_w, i32_w]; rw [c38b0]) | rw [c38b1] | skip)
         by_cases c39 : t797 = 0
         ·rw [if_pos c39] at H
          have c39b0 : (t797 == 0) = true := beq_iff_eq.mpr c39
          have c39b1 : (t797 != 0) = false := bne_eq_false_iff_eq.mpr c39
          clear c39
          by_cases c40 : t799 = 0
          ·rw [if_pos c40] at H
           have c40b0 : (t799 == 0) = true := beq_iff_eq.mpr c40
           have c40b1 : (t799 != 0) = false := bne_eq_false_iff_eq.mpr c40
           clear c40
           have H' := Aside0.mk H
           clear H
           go_wp2
           go_meet
           case rel => exact ⟨_, ((t803 != 0)), (by first | rfl | (simp; done) | (simp only [i64_w, i32_w]; first | done | rfl | (simp; done)) | (simp [*]; done)), H', ⟨by have := HJ5.out; have := HJ22.out; first | omega | exact Nat.le_refl _⟩, ⟨by (with_reducible repeat (first | apply Kd.R_alloc | apply Kd.R_drewN | apply Kd.R_drew)); exact HO801.out⟩, ⟨by (with_reducible repeat (first | refine blk_drewN ?_ _ | refine blk_drew ?_ | refine blk_alloc ?_ _)); exact BK786.out⟩, ⟨by (with_reducible repeat (first | refine blk_drewN ?_ _ | refine blk_drew ?_ | refine blk_alloc ?_ _)); exact BK787.out⟩, ⟨by repeat (first | (with_reducible first | exact HB.out | apply below_alloc | apply pw_below_drewN | apply below_drew1 | refine below_set ?_ GE786.out | refine below_set ?_ GE787.out) | exact HB.out)⟩⟩
          ·rw [if_neg c40] at H
           have c40b0 : (t799 == 0) = false := beq_eq_false_iff_ne.mpr c40
           have c40b1 : (t799 != 0) = true := bne_iff_ne.mpr c40
           have H' := Aside0.mk H
           clear H
           go_wp2
           go_meet
           case rel => exact ⟨_, (true), (by first | rfl | (simp; done) | (simp only [i64_w, i32_w]; first | done | rfl | (simp; done)) | (simp [*]; done)), H', ⟨by have := HJ5.out; have := HJ22.out; first | omega | exact Nat.le_refl _⟩, ⟨by (with_reducible repeat (first | apply Kd.R_alloc | apply Kd.R_drewN | apply Kd.R_drew)); exact HO801.out⟩, ⟨by (with_reducible repeat (first | refine blk_drewN ?_ _ | refine blk_drew ?_ | refine blk_alloc ?_ _)); exact BK786.out⟩, ⟨by (with_reducible repeat (first | refine blk_drewN ?_ _ | refine blk_drew ?_ | refine blk_alloc ?_ _)); exact BK787.out⟩, ⟨by repeat (first | (with_reducible first | exact HB.out | apply below_alloc | apply pw_below_drewN | apply below_drew1 | refine below_set ?_ GE786.out | refine below_set ?_ GE787.out) | exact HB.out)⟩⟩
         ·rw [if_neg c39] at H
          have c39b0 : (t797 == 0) = false := beq_eq_false_iff_ne.mpr c39
          have c39b1 : (t797 != 0) = true := bne_iff_ne.mpr c39
          have H' := Aside0.mk H
          clear H
          go_wp2
          go_meet
          case rel => exact ⟨_, (true), (by first | rfl | (simp; done) | (simp only [i64_w, i32_w]; first | done | rfl | (simp; done)) | (simp [*]; done)), H', ⟨by have := HJ5.out; have := HJ22.out; first | omega | exact Nat.le_refl _⟩, ⟨by (with_reducible repeat (first | apply Kd.R_alloc | apply Kd.R_drewN | apply Kd.R_drew)); exact HO801.out⟩, ⟨by (with_reducible repeat (first | refine blk_drewN ?_ _ | refine blk_drew ?_ | refine blk_alloc ?_ _)); exact BK786.out⟩, ⟨by (with_reducible repeat (first | refine blk_drewN ?_ _ | refine blk_drew ?_ | refine blk_alloc ?_ _)); exact BK787.out⟩, ⟨by repeat (first | (with_reducible first | exact HB.out | apply below_alloc | apply pw_below_drewN | apply below_drew1 | refine below_set ?_ GE786.out | refine below_set ?_ GE787.out) | exact HB.out)⟩⟩
        ·rw [if_neg c38] at H
         have c38b0 : (t795 == 0) = false := beq_eq_false_iff_ne.mpr c38
         have c38b1 : (t795 != 0) = true := bne_iff_ne.mpr c38
         (first | rw [c38b0] | (simp only [i64_w, i32_w]; rw [c38b0]) | rw [c38b1] | skip)
         have H' := Aside0.mk H
         clear H
         go_wp2
         go_meet
         case rel => exact ⟨_, (true), (by first | rfl | (simp; done) | (simp only [i64_w, i32_w]; first | done | rfl | (simp; done)) | (simp [*]; done)), H', ⟨by have := HJ5.out; have := HJ22.out; first | omega | exact Nat.le_refl _⟩, ⟨by (with_reducible repeat (first | apply Kd.R_alloc | apply Kd.R_drewN | apply Kd.R_drew)); exact HO801.out⟩, ⟨by (with_reducible repeat (first | refine blk_drewN ?_ _ | refine blk_drew ?_ | refine blk_alloc ?_ _)); exact BK786.out⟩, ⟨by (with_reducible repeat (first | refine blk_drewN ?_ _ | refine blk_drew ?_ | refine blk_alloc ?_ _)); exact BK787.out⟩, ⟨by repeat (first | (with_reducible first | exact HB.out | apply below_alloc | apply pw_below_drewN | apply below_drew1 | refine below_set ?_ GE786.out | refine below_set ?_ GE787.out) | exact HB.out)⟩⟩
       case rest => as_aux_lemma =>
        clear HC33
        try clear c1
        try clear c2
        try clear p2
        try clear c3
        try clear c4
        try clear c5
        try clear c10
        try clear c15
        try clear c15b0
        try clear c15b1
        try clear c16
        try clear c17
        try clear c18
        try clear c18b0
        try clear c18b1
        try clear c19
        try clear c20
        try clear c23
        try clear c24
        try clear c24b0
        try clear c24b1
        try clear c25
        try clear c26
        try clear c28
        try clear c30
        try clear c34
        try clear c38
        try clear c38b0
        try clear c38b1
        try clear c39
        try clear c39b0
        try clear c39b1
        try clear c40
        try clear c40b0
        try clear c40b1
        try clear hcz11_0
        try clear hcz11_1
        try clear hcz11_2
        try clear hcz11_3
        try clear hcz11_4
        try clear hcz13_0
        try clear hcz13_1
        try clear hcz13_2
        try clear hcz13_3
        try clear hcz13_4
        try clear hcz21_0
        try clear hcz21_1
        try clear hcz21_2
        try clear hcz21_3
        try clear hcz21_4
        try clear hcz26_0
        try clear hcz26_1
        try clear hcz26_2
        try clear hcz26_3
        try clear hcz26_4
        try clear hcz27_0
        try clear hcz27_1
        try clear hcz27_2
        try clear hcz27_3
        try clear hcz27_4
        try clear hcz35_0
        try clear hcz35_1
        try clear hcz35_2
        try clear hcz35_3
        try clear hcz35_4
        try clear hfz11_0
        try clear hfz11_1
        try clear hfz11_2
        try clear hfz11_3
        try clear hfz11_4
        try clear hfz13_0
        try clear hfz13_1
        try clear hfz13_2
        try clear hfz13_3
        try clear hfz13_4
        try clear hfz21_0
        try clear hfz21_1
        try clear hfz21_2
        try clear hfz21_3
        try clear hfz21_4
        try clear hfz26_0
        try clear hfz26_1
        try clear hfz26_2
        try clear hfz26_3
        try clear hfz26_4
        try clear hfz27_0
        try clear hfz27_1
        try clear hfz27_2
        try clear hfz27_3
        try clear hfz27_4
        try clear hfz35_0
        try clear hfz35_1
        try clear hfz35_2
        try clear hfz35_3
        try clear hfz35_4
        try clear p2
        obtain ⟨kq, x97_32, rfl, HA, HJ32, HO_14, BK786, BK787, HB⟩ := hcut
        cases kq with
        | zero => exact absurd HA.out (by simp [quoinlaw03_EncAlone.j2])
        | succ kj32 =>
         have H := HA.out
         clear HA
         simp only [quoinlaw03_EncAlone.j2] at H
         by_cases c41 : x97_32 = true
         ·subst c41
          have H1 : (none) = some r := by rw [if_pos rfl] at H; exact H
          clear H
          have H := H1
          clear H1
          exact absurd H (by simp)
         ·replace c41 := Bool.eq_false_iff.mpr c41
          subst c41
          have H1 : (if t794 = 74 then (quoinlaw03_EncAlone.j3 kj32 t789 t796 t798 t802 a0_4 true a0_0 a0_1 a0_2 a0_3 a0_4) else (quoinlaw03_EncAlone.j3 kj32 t789 t796 t798 t802 a0_4 (t794 == 66) a0_0 a0_1 a0_2 a0_3 a0_4)) = some r := by rw [if_neg (show ¬ (false = true) by decide)] at H; exact H
          clear H
          have H := H1
          clear H1
          have HC42 := Aside0.mk H
          clear H
          have hnb43 := NB786_787.out
          have hnc43 := NB787_786.out
          have hcz44_0 : wc.cell? ⟨gb786, 0, none⟩ = some (.int .u8 a0_0) := (blk_cell BK786.out 0).trans rfl
          have hcz44_1 : wc.cell? ⟨gb786, 1, none⟩ = some (.int .i64 a0_1) := (blk_cell BK786.out 1).trans rfl
          have hcz44_2 : wc.cell? ⟨gb786, 2, none⟩ = some (.int .i64 a0_2) := (blk_cell BK786.out 2).trans rfl
          have hcz44_3 : wc.cell? ⟨gb786, 3, none⟩ = some (.int .i64 a0_3) := (blk_cell BK786.out 3).trans rfl
          have hcz44_4 : wc.cell? ⟨gb786, 4, none⟩ = some (.int .i64 a0_4) := (blk_cell BK786.out 4).trans rfl
          have hfz44_0 := blk_frozen BK786.out 0
          have hfz44_1 := blk_frozen BK786.out 1
          have hfz44_2 := blk_frozen BK786.out 2
          have hfz44_3 := blk_frozen BK786.out 3
          have hfz44_4 := blk_frozen BK786.out 4
          go_upto_region 15 with (fail)
          go_cut [105] (fun v105 wc => ∃ (kq : Nat) (x105_41 : Bool), v105 = .bool x105_41 ∧ Aside0 (quoinlaw03_EncAlone.j3 kq t789 t796 t798 t802 a0_4 x105_41 a0_0 a0_1 a0_2 a0_3 a0_4 = some r) ∧ Aside0 (kq ≤ kj32) ∧ Aside0 (Kd.R (Kd.int .i64) 3 wc w.heap.size (fun _ => True) (.slice Ao37 t798.length co37) t798) ∧ Aside0 (wc.heap[gb786]? = some (.cells #[.int .u8 a0_0, .int .i64 a0_1, .int .i64 a0_2, .int .i64 a0_3, .int .i64 a0_4] 33 (0, 0))) ∧ Aside0 (wc.heap[gb787]? = some (.cells #[.int .u8 a1_0, .int .i64 a1_1, .int .i64 a1_2, .int .i64 a1_3, .int .i64 a1_4] 33 (0, 0))) ∧ Aside0 (Below w.heap.size w wc))
          case first =>
           have H := HC42.out
           clear HC42
           by_cases c45 : t794 = 74
           ·rw [if_pos c45] at H
            have c45b0 : (t794 == 74) = true := beq_iff_eq.mpr c45
            have c45b1 : (t794 != 74) = false := bne_eq_false_iff_eq.mpr c45
            clear c45
            (first | rw [c45b0] | (simp only [i64_w, i32_w]; rw [c45b0]) | rw [c45b1] | skip)
            have H' := Aside0.mk H
            clear H
            go_wp2
            go_meet
            case rel => exact ⟨_, (true), (by first | rfl | (simp; done) | (simp only [i64_w, i32_w]; first | done | rfl | (simp; done)) | (simp [*]; done)), H', ⟨by have := HJ5.out; have := HJ22.out; have := HJ32.out; first | omega | exact Nat.le_refl _⟩, ⟨by (with_reducible repeat (first | apply Kd.R_alloc | apply Kd.R_drewN | apply Kd.R_drew)); exact HO_14.out⟩, ⟨by (with_reducible repeat (first | refine blk_drewN ?_ _ | refine blk_drew ?_ | refine blk_alloc ?_ _)); exact BK786.out⟩, ⟨by (with_reducible repeat (first | refine blk_drewN ?_ _ | refine blk_drew ?_ | refine blk_alloc ?_ _)); exact BK787.out⟩, ⟨by repeat (first | (with_reducible first | exact HB.out | apply below_alloc | apply pw_below_drewN | apply below_drew1 | refine below_set ?_ GE786.out | refine below_set ?_ GE787.out) | exact HB.out)⟩⟩
           ·rw [if_neg c45] at H
            have c45b0 : (t794 == 74) = false := beq_eq_false_iff_ne.mpr c45
            have c45b1 : (t794 != 74) = true := bne_iff_ne.mpr c45
            (first | rw [c45b0] | (simp only [i64_w, i32_w]; rw [c45b0]) | rw [c45b1] | skip)
            have H' := Aside0.mk H
            clear H
            go_wp2
            go_meet
            case rel => exact ⟨_, ((t794 == 66)), (by first | rfl | (simp; done) | (simp only [i64_w, i32_w]; first | done | rfl | (simp; done)) | (simp [*]; done)), H', ⟨by have := HJ5.out; have := HJ22.out; have := HJ32.out; first | omega | exact Nat.le_refl _⟩, ⟨by (with_reducible repeat (first | apply Kd.R_alloc | apply Kd.R_drewN | apply Kd.R_drew)); exact HO_14.out⟩, ⟨by (with_reducible repeat (first | refine blk_drewN ?_ _ | refine blk_drew ?_ | refine blk_alloc ?_ _)); exact BK786.out⟩, ⟨by (with_reducible repeat (first | refine blk_drewN ?_ _ | refine blk_drew ?_ | refine blk_alloc ?_ _)); exact BK787.out⟩, ⟨by repeat (first | (with_reducible first | exact HB.out | apply below_alloc | apply pw_below_drewN | apply below_drew1 | refine below_set ?_ GE786.out | refine below_set ?_ GE787.out) | exact HB.out)⟩⟩
          case rest => as_aux_lemma =>
           clear HC42
           try clear c1
           try clear c2
           try clear p2
           try clear c3
           try clear c4
           try clear c5
           try clear c10
           try clear c15
           try clear c15b0
           try clear c15b1
           try clear c16
           try clear c17
           try clear c18
           try clear c18b0
           try clear c18b1
           try clear c19
           try clear c20
           try clear c23
           try clear c24
           try clear c24b0
           try clear c24b1
           try clear c25
           try clear c26
           try clear c28
           try clear c30
           try clear c34
           try clear c38
           try clear c38b0
           try clear c38b1
           try clear c39
           try clear c39b0
           try clear c39b1
           try clear c40
           try clear c40b0
           try clear c40b1
           try clear c41
           try clear c43
           try clear c44
           try clear c45
           try clear c45b0
           try clear c45b1
           try clear hcz11_0
           try clear hcz11_1
           try clear hcz11_2
           try clear hcz11_3
           try clear hcz11_4
           try clear hcz13_0
           try clear hcz13_1
           try clear hcz13_2
           try clear hcz13_3
           try clear hcz13_4
           try clear hcz21_0
           try clear hcz21_1
           try clear hcz21_2
           try clear hcz21_3
           try clear hcz21_4
           try clear hcz26_0
           try clear hcz26_1
           try clear hcz26_2
           try clear hcz26_3
           try clear hcz26_4
           try clear hcz27_0
           try clear hcz27_1
           try clear hcz27_2
           try clear hcz27_3
           try clear hcz27_4
           try clear hcz35_0
           try clear hcz35_1
           try clear hcz35_2
           try clear hcz35_3
           try clear hcz35_4
           try clear hcz44_0
           try clear hcz44_1
           try clear hcz44_2
           try clear hcz44_3
           try clear hcz44_4
           try clear hfz11_0
           try clear hfz11_1
           try clear hfz11_2
           try clear hfz11_3
           try clear hfz11_4
           try clear hfz13_0
           try clear hfz13_1
           try clear hfz13_2
           try clear hfz13_3
           try clear hfz13_4
           try clear hfz21_0
           try clear hfz21_1
           try clear hfz21_2
           try clear hfz21_3
           try clear hfz21_4
           try clear hfz26_0
           try clear hfz26_1
           try clear hfz26_2
           try clear hfz26_3
           try clear hfz26_4
           try clear hfz27_0
           try clear hfz27_1
           try clear hfz27_2
           try clear hfz27_3
           try clear hfz27_4
           try clear hfz35_0
           try clear hfz35_1
           try clear hfz35_2
           try clear hfz35_3
           try clear hfz35_4
           try clear hfz44_0
           try clear hfz44_1
           try clear hfz44_2
           try clear hfz44_3
           try clear hfz44_4
           try clear p2
           obtain ⟨kq, x105_41, rfl, HA, HJ41, HO_14, BK786, BK787, HB⟩ := hcut
           cases kq with
           | zero => exact absurd HA.out (by simp [quoinlaw03_EncAlone.j3])
           | succ kj41 =>
            have H := HA.out
            clear HA
            simp only [quoinlaw03_EncAlone.j3] at H
            have HC46 := Aside0.mk H
            clear H
            go_upto_if 105 with (fail)
            go_cut [18] (fun v18 wc => ∃ (kq : Nat) (x18_45 : Int), v18 = .int .i64 x18_45 ∧ Aside0 (quoinlaw03_EncAlone.j4 kq t789 t796 t798 t802 x18_45 a0_0 a0_1 a0_2 a0_3 a0_4 = some r) ∧ Aside0 (kq ≤ kj41) ∧ Aside0 (Kd.R (Kd.int .i64) 3 wc w.heap.size (fun _ => True) (.slice Ao37 t798.length co37) t798) ∧ Aside0 (wc.heap[gb786]? = some (.cells #[.int .u8 a0_0, .int .i64 a0_1, .int .i64 a0_2, .int .i64 a0_3, .int .i64 a0_4] 33 (0, 0))) ∧ Aside0 (wc.heap[gb787]? = some (.cells #[.int .u8 a1_0, .int .i64 a1_1, .int .i64 a1_2, .int .i64 a1_3, .int .i64 a1_4] 33 (0, 0))) ∧ Aside0 (Below w.heap.size w wc))
            case first =>
             have H := HC46.out
             clear HC46
             by_cases c47 : x105_41 = true
             ·subst c47
              have H1 : (quoinlaw03_EncAlone.j4 kj41 t789 t796 t798 t802 (wrap64 (Int.tdiv a0_4 2)) a0_0 a0_1 a0_2 a0_3 a0_4) = some r := by rw [if_pos rfl] at H; exact H
              clear H
              have H := H1
              clear H1
              have H' := Aside0.mk H
              clear H
              go_wp2
              go_meet
              case rel => exact ⟨_, (wrap64 (Int.tdiv a0_4 2)), (by first | rfl | (simp; done) | (simp only [i64_w, i32_w]; first | done | rfl | (simp; done)) | (simp [*]; done)), H', ⟨by have := HJ5.out; have := HJ22.out; have := HJ32.out; have := HJ41.out; first | omega | exact Nat.le_refl _⟩, ⟨by (with_reducible repeat (first | apply Kd.R_alloc | apply Kd.R_drewN | apply Kd.R_drew)); exact HO_14.out⟩, ⟨by (with_reducible repeat (first | refine blk_drewN ?_ _ | refine blk_drew ?_ | refine blk_alloc ?_ _)); exact BK786.out⟩, ⟨by (with_reducible repeat (first | refine blk_drewN ?_ _ | refine blk_drew ?_ | refine blk_alloc ?_ _)); exact BK787.out⟩, ⟨by repeat (first | (with_reducible first | exact HB.out | apply below_alloc | apply pw_below_drewN | apply below_drew1 | refine below_set ?_ GE786.out | refine below_set ?_ GE787.out) | exact HB.out)⟩⟩
             ·replace c47 := Bool.eq_false_iff.mpr c47
              subst c47
              have H1 : (quoinlaw03_EncAlone.j4 kj41 t789 t796 t798 t802 a0_4 a0_0 a0_1 a0_2 a0_3 a0_4) = some r := by rw [if_neg (show ¬ (false = true) by decide)] at H; exact H
              clear H
              have H := H1
              clear H1
              have H' := Aside0.mk H
              clear H
              go_wp2
              go_meet
              case rel => exact ⟨_, (a0_4), (by first | rfl | (simp; done) | (simp only [i64_w, i32_w]; first | done | rfl | (simp; done)) | (simp [*]; done)), H', ⟨by have := HJ5.out; have := HJ22.out; have := HJ32.out; have := HJ41.out; first | omega | exact Nat.le_refl _⟩, ⟨by (with_reducible repeat (first | apply Kd.R_alloc | apply Kd.R_drewN | apply Kd.R_drew)); exact HO_14.out⟩, ⟨by (with_reducible repeat (first | refine blk_drewN ?_ _ | refine blk_drew ?_ | refine blk_alloc ?_ _)); exact BK786.out⟩, ⟨by (with_reducible repeat (first | refine blk_drewN ?_ _ | refine blk_drew ?_ | refine blk_alloc ?_ _)); exact BK787.out⟩, ⟨by repeat (first | (with_reducible first | exact HB.out | apply below_alloc | apply pw_below_drewN | apply below_drew1 | refine below_set ?_ GE786.out | refine below_set ?_ GE787.out) | exact HB.out)⟩⟩
            case rest => as_aux_lemma =>
             clear HC46
             try clear c1
             try clear c2
             try clear p2
             try clear c3
             try clear c4
             try clear c5
             try clear p6
             try clear c10
             try clear c15
             try clear c15b0
             try clear c15b1
             try clear c16
             try clear c17
             try clear c18
             try clear c18b0
             try clear c18b1
             try clear c19
             try clear c20
             try clear c23
             try clear c24
             try clear c24b0
             try clear c24b1
             try clear c25
             try clear c26
             try clear c28
             try clear c30
             try clear c34
             try clear c38
             try clear c38b0
             try clear c38b1
             try clear c39
             try clear c39b0
             try clear c39b1
             try clear c40
             try clear c40b0
             try clear c40b1
             try clear c41
             try clear c43
             try clear c44
             try clear c45
             try clear c45b0
             try clear c45b1
             try clear c47
             try clear hcz11_0
             try clear hcz11_1
             try clear hcz11_2
             try clear hcz11_3
             try clear hcz11_4
             try clear hcz13_0
             try clear hcz13_1
             try clear hcz13_2
             try clear hcz13_3
             try clear hcz13_4
             try clear hcz21_0
             try clear hcz21_1
             try clear hcz21_2
             try clear hcz21_3
             try clear hcz21_4
             try clear hcz26_0
             try clear hcz26_1
             try clear hcz26_2
             try clear hcz26_3
             try clear hcz26_4
             try clear hcz27_0
             try clear hcz27_1
             try clear hcz27_2
             try clear hcz27_3
             try clear hcz27_4
             try clear hcz35_0
             try clear hcz35_1
             try clear hcz35_2
             try clear hcz35_3
             try clear hcz35_4
             try clear hcz44_0
             try clear hcz44_1
             try clear hcz44_2
             try clear hcz44_3
             try clear hcz44_4
             try clear hfz11_0
             try clear hfz11_1
             try clear hfz11_2
             try clear hfz11_3
             try clear hfz11_4
             try clear hfz13_0
             try clear hfz13_1
             try clear hfz13_2
             try clear hfz13_3
             try clear hfz13_4
             try clear hfz21_0
             try clear hfz21_1
             try clear hfz21_2
             try clear hfz21_3
             try clear hfz21_4
             try clear hfz26_0
             try clear hfz26_1
             try clear hfz26_2
             try clear hfz26_3
             try clear hfz26_4
             try clear hfz27_0
             try clear hfz27_1
             try clear hfz27_2
             try clear hfz27_3
             try clear hfz27_4
             try clear hfz35_0
             try clear hfz35_1
             try clear hfz35_2
             try clear hfz35_3
             try clear hfz35_4
             try clear hfz44_0
             try clear hfz44_1
             try clear hfz44_2
             try clear hfz44_3
             try clear hfz44_4
             try clear p2
             obtain ⟨kq, x18_45, rfl, HA, HJ45, HO_14, BK786, BK787, HB⟩ := hcut
             cases kq with
             | zero => exact absurd HA.out (by simp [quoinlaw03_EncAlone.j4])
             | succ kj45 =>
              have H := HA.out
              clear HA
              simp only [quoinlaw03_EncAlone.j4] at H
              have HC48 := Aside0.mk H
              clear H
              go_upto_if 110 with (fail)
              go_cut [19] (fun v19 wc => ∃ (kq : Nat) (x19_47 : Int), v19 = .int .u32 x19_47 ∧ Aside0 (quoinlaw03_EncAlone.j5 kq t789 t796 t798 t802 x19_47 a0_0 a0_1 a0_2 a0_3 a0_4 = some r) ∧ Aside0 (kq ≤ kj45) ∧ Aside0 (Kd.R (Kd.int .i64) 3 wc w.heap.size (fun _ => True) (.slice Ao37 t798.length co37) t798) ∧ Aside0 (wc.heap[gb786]? = some (.cells #[.int .u8 a0_0, .int .i64 a0_1, .int .i64 a0_2, .int .i64 a0_3, .int .i64 a0_4] 33 (0, 0))) ∧ Aside0 (wc.heap[gb787]? = some (.cells #[.int .u8 a1_0, .int .i64 a1_1, .int .i64 a1_2, .int .i64 a1_3, .int .i64 a1_4] 33 (0, 0))) ∧ Aside0 (Below w.heap.size w wc))
              case first =>
               have H := HC48.out
               clear HC48
               by_cases c49 : (t798.length : Int) > 0
               ·rw [if_pos c49] at H
                have c49b0 : decide (0 < (t798.length : Int)) = true := decide_eq_true c49
                have c49b1 : decide (0 < t798.length) = true := decide_eq_true (by omega)
                clear c49
                (first | rw [c49b0] | (simp only [i64_w, i32_w]; rw [c49b0]) | rw [c49b1] | skip)
                obtain ⟨ji50, hji50⟩ : ∃ j_ : Int, (wrap64 (32 - (t798.length : Int))) = j_ := ⟨_, rfl⟩
                replace H : (if 0 ≤ (ji50) then (quoinlaw03_EncAlone.j5 kj45 t789 t796 t798 t802 (shr .u32 (shl .u32 ((x18_45) % 4294967296) (ji50)) (ji50)) a0_0 a0_1 a0_2 a0_3 a0_4) else (none)) = some r := by first | (rw [hji50] at H; exact H) | (simp only [hji50] at H ⊢; exact H)
                have hji50w : (IntKind.i64.wrap (32 - (t798.length : Int))) = ji50 := (i64_w _).trans hji50
                by_cases c51 : 0 ≤ (ji50)
                ·rw [if_pos c51] at H
                 have c51b0 := eq_true c51
                 have c51b1 : decide (0 ≤ (ji50)) = true := decide_eq_true c51
                 clear c51
                 obtain ⟨ji52, hji52⟩ : ∃ j_ : Int, (shl .u32 ((x18_45) % 4294967296) (ji50)) = j_ := ⟨_, rfl⟩
                 replace H : (quoinlaw03_EncAlone.j5 kj45 t789 t796 t798 t802 (shr .u32 (ji52) (ji50)) a0_0 a0_1 a0_2 a0_3 a0_4) = some r := by first | (rw [hji52] at H; exact H) | (simp only [hji52] at H ⊢; exact H)
                 have hji52_ : (IntKind.u32.wrap (((x18_45) % 4294967296) * 2 ^ min (ji50).toNat 32)) = ji52 := hji52
                 have hji52z : (ji50) ≤ 32 → (IntKind.u32.wrap (((x18_45) % 4294967296) * 2 ^ (ji50).toNat)) = ji52 := shl_small hji52
                 have c53b0 := eq_true (of_decide_eq_true (by first | (with_reducible assumption) | assumption) : 0 ≤ (ji50))
                 obtain ⟨ji54, hji54⟩ : ∃ j_ : Int, (shr .u32 (ji52) (ji50)) = j_ := ⟨_, rfl⟩
                 replace H : (quoinlaw03_EncAlone.j5 kj45 t789 t796 t798 t802 ji54 a0_0 a0_1 a0_2 a0_3 a0_4) = some r := by first | (rw [hji54] at H; exact H) | (simp only [hji54] at H ⊢; exact H)
                 have hji54_ : ((ji52) / 2 ^ min (ji50).toNat 32) = ji54 := hji54
                 have hji54z : (ji50) ≤ 32 → ((ji52) / 2 ^ (ji50).toNat) = ji54 := shr_small hji54
                 have H' := Aside0.mk H
                 clear H
                 go_wp2
                 go_meet
                 case rel => exact ⟨_, (ji54), (by first | rfl | (simp; done) | (simp only [i64_w, i32_w]; first | done | rfl | (simp; done)) | (simp only [← hji54] <;> (first | rfl | simp)) | (simp [*]; done)), H', ⟨by have := HJ5.out; have := HJ22.out; have := HJ32.out; have := HJ41.out; have := HJ45.out; first | omega | exact Nat.le_refl _⟩, ⟨by (with_reducible repeat (first | apply Kd.R_alloc | apply Kd.R_drewN | apply Kd.R_drew)); exact HO_14.out⟩, ⟨by (with_reducible repeat (first | refine blk_drewN ?_ _ | refine blk_drew ?_ | refine blk_alloc ?_ _)); exact BK786.out⟩, ⟨by (with_reducible repeat (first | refine blk_drewN ?_ _ | refine blk_drew ?_ | refine blk_alloc ?_ _)); exact BK787.out⟩, ⟨by repeat (first | (with_reducible first | exact HB.out | apply below_alloc | apply pw_below_drewN | apply below_drew1 | refine below_set ?_ GE786.out | refine below_set ?_ GE787.out) | exact HB.out)⟩⟩
                ·rw [if_neg c51] at H
                 exact absurd H (by simp)
               ·rw [if_neg c49] at H
                have c49b0 : decide (0 < (t798.length : Int)) = false := decide_eq_false c49
                have c49b1 : decide (0 < t798.length) = false := decide_eq_false (by omega)
                clear c49
                (first | rw [c49b0] | (simp only [i64_w, i32_w]; rw [c49b0]) | rw [c49b1] | skip)
                have H' := Aside0.mk H
                clear H
                go_wp2
                go_meet
                case rel => exact ⟨_, (0), (by first | rfl | (simp; done) | (simp only [i64_w, i32_w]; first | done | rfl | (simp; done)) | (simp [*]; done)), H', ⟨by have := HJ5.out; have := HJ22.out; have := HJ32.out; have := HJ41.out; have := HJ45.out; first | omega | exact Nat.le_refl _⟩, ⟨by (with_reducible repeat (first | apply Kd.R_alloc | apply Kd.R_drewN | apply Kd.R_drew)); exact HO_14.out⟩, ⟨by (with_reducible repeat (first | refine blk_drewN ?_ _ | refine blk_drew ?_ | refine blk_alloc ?_ _)); exact BK786.out⟩, ⟨by (with_reducible repeat (first | refine blk_drewN ?_ _ | refine blk_drew ?_ | refine blk_alloc ?_ _)); exact BK787.out⟩, ⟨by repeat (first | (with_reducible first | exact HB.out | apply below_alloc | apply pw_below_drewN | apply below_drew1 | refine below_set ?_ GE786.out | refine below_set ?_ GE787.out) | exact HB.out)⟩⟩
              case rest => as_aux_lemma =>
               clear HC48
               try clear c1
               try clear c2
               try clear p2
               try clear c3
               try clear c4
               try clear c5
               try clear p6
               try clear c10
               try clear c15
               try clear c15b0
               try clear c15b1
               try clear c16
               try clear c17
               try clear c18
               try clear c18b0
               try clear c18b1
               try clear c19
               try clear c20
               try clear c23
               try clear c24
               try clear c24b0
               try clear c24b1
               try clear c25
               try clear c26
               try clear c28
               try clear c30
               try clear c34
               try clear c38
               try clear c38b0
               try clear c38b1
               try clear c39
               try clear c39b0
               try clear c39b1
               try clear c40
               try clear c40b0
               try clear c40b1
               try clear c41
               try clear c43
               try clear c44
               try clear c45
               try clear c45b0
               try clear c45b1
               try clear c47
               try clear c49
               try clear c49b0
               try clear c49b1
               try clear c51
               try clear c51b0
               try clear c51b1
               try clear c52
               try clear c53
               try clear c53b0
               try clear hcz11_0
               try clear hcz11_1
               try clear hcz11_2
               try clear hcz11_3
               try clear hcz11_4
               try clear hcz13_0
               try clear hcz13_1
               try clear hcz13_2
               try clear hcz13_3
               try clear hcz13_4
               try clear hcz21_0
               try clear hcz21_1
               try clear hcz21_2
               try clear hcz21_3
               try clear hcz21_4
               try clear hcz26_0
               try clear hcz26_1
               try clear hcz26_2
               try clear hcz26_3
               try clear hcz26_4
               try clear hcz27_0
               try clear hcz27_1
               try clear hcz27_2
               try clear hcz27_3
               try clear hcz27_4
               try clear hcz35_0
               try clear hcz35_1
               try clear hcz35_2
               try clear hcz35_3
               try clear hcz35_4
               try clear hcz44_0
               try clear hcz44_1
               try clear hcz44_2
               try clear hcz44_3
               try clear hcz44_4
               try clear hfz11_0
               try clear hfz11_1
               try clear hfz11_2
               try clear hfz11_3
               try clear hfz11_4
               try clear hfz13_0
               try clear hfz13_1
               try clear hfz13_2
               try clear hfz13_3
               try clear hfz13_4
               try clear hfz21_0
               try clear hfz21_1
               try clear hfz21_2
               try clear hfz21_3
               try clear hfz21_4
               try clear hfz26_0
               try clear hfz26_1
               try clear hfz26_2
               try clear hfz26_3
               try clear hfz26_4
               try clear hfz27_0
               try clear hfz27_1
               try clear hfz27_2
               try clear hfz27_3
               try clear hfz27_4
               try clear hfz35_0
               try clear hfz35_1
               try clear hfz35_2
               try clear hfz35_3
               try clear hfz35_4
               try clear hfz44_0
               try clear hfz44_1
               try clear hfz44_2
               try clear hfz44_3
               try clear hfz44_4
               try clear p2
               try clear p6
               obtain ⟨kq, x19_47, rfl, HA, HJ47, HO_14, BK786, BK787, HB⟩ := hcut
               cases kq with
               | zero => exact absurd HA.out (by simp [quoinlaw03_EncAlone.j5])
               | succ kj47 =>
                have H := HA.out
                clear HA
                simp only [quoinlaw03_EncAlone.j5] at H
                by_cases c55 : t802 = x19_47
                ·rw [if_pos c55] at H
                 have c55b0 : (t802 == x19_47) = true := beq_iff_eq.mpr c55
                 have c55b1 : (t802 != x19_47) = false := bne_eq_false_iff_eq.mpr c55
                 clear c55
                 by_cases c56 : a0_1 = 0
                 ·rw [if_pos c56] at H
                  have c56b0 : (a0_1 == 0) = true := beq_iff_eq.mpr c56
                  have c56b1 : (a0_1 != 0) = false := bne_eq_false_iff_eq.mpr c56
                  clear c56
                  by_cases c57 : a0_2 = 0
                  ·rw [if_pos c57] at H
                   have c57b0 : (a0_2 == 0) = true := beq_iff_eq.mpr c57
                   have c57b1 : (a0_2 != 0) = false := bne_eq_false_iff_eq.mpr c57
                   clear c57
                   by_cases c58 : a0_3 = 0
                   ·rw [if_pos c58] at H
                    have c58b0 : (a0_3 == 0) = true := beq_iff_eq.mpr c58
                    have c58b1 : (a0_3 != 0) = false := bne_eq_false_iff_eq.mpr c58
                    clear c58
                    replace H := Option.bind_eq_some_iff.mp H
                    obtain ⟨⟨t804, t805⟩, A590, H⟩ := H
                    have A59 := Aside0.mk A590
                    clear A590
                    by_cases c60 : t805 = 0
                    ·rw [if_pos c60] at H
                     have c60b0 : (t805 == 0) = true := beq_iff_eq.mpr c60
                     have c60b1 : (t805 != 0) = false := bne_eq_false_iff_eq.mpr c60
                     clear c60
                     by_cases c61 : t789 = (Go.bits .or .u32 (Go.bits .or .u32 (Go.bits .or .u32 (Go.bits .or .u32 t796 t804) ((((a0_1) % 4294967296) * 128) % 4294967296)) ((((a0_2) % 4294967296) * 32768) % 4294967296)) ((((a0_3) % 4294967296) * 1048576) % 4294967296))
                     ·rw [if_pos c61] at H
                      have c61b0 : (t789 == (Go.bits .or .u32 (Go.bits .or .u32 (Go.bits .or .u32 (Go.bits .or .u32 t796 t804) ((((a0_1) % 4294967296) * 128) % 4294967296)) ((((a0_2) % 4294967296) * 32768) % 4294967296)) ((((a0_3) % 4294967296) * 1048576) % 4294967296))) = true := beq_iff_eq.mpr c61
                      have c61b1 : (t789 != (Go.bits .or .u32 (Go.bits .or .u32 (Go.bits .or .u32 (Go.bits .or .u32 t796 t804) ((((a0_1) % 4294967296) * 128) % 4294967296)) ((((a0_2) % 4294967296) * 32768) % 4294967296)) ((((a0_3) % 4294967296) * 1048576) % 4294967296))) = false := bne_eq_false_iff_eq.mpr c61
                      clear c61
                      obtain rfl := Option.some.inj H
                      try go_wp2
                      have n0_ := Aside0.mk (Kd.R_drew HO_14.out)
                      have n1_ := Aside0.mk (blk_drew BK786.out)
                      have n2_ := Aside0.mk (blk_drew BK787.out)
                      have n3_ := Aside0.mk (below_drew1 HB.out)
                      clear HO_14
                      clear BK786
                      clear BK787
                      clear HB
                      have HO_14 := n0_
                      have BK786 := n1_
                      have BK787 := n2_
                      have HB := n3_
                      clear n0_ n1_ n2_ n3_
                      as_aux_lemma =>
                       refine start_ (n := 39) (S := fun w' => w'.cell? ⟨gb786, 0, none⟩ = some (.int .u8 a0_0) ∧ w'.cell? ⟨gb786, 1, none⟩ = some (.int .i64 a0_1) ∧ w'.cell? ⟨gb786, 2, none⟩ = some (.int .i64 a0_2) ∧ w'.cell? ⟨gb786, 3, none⟩ = some (.int .i64 a0_3) ∧ w'.cell? ⟨gb786, 4, none⟩ = some (.int .i64 a0_4)) (ds := []) quoinlaw03_EncAlone.m0 (by kernel_rfl) rfl rfl ⟨(blk_cell BK786.out 0).trans rfl, (blk_cell BK786.out 1).trans rfl, (blk_cell BK786.out 2).trans rfl, (blk_cell BK786.out 3).trans rfl, (blk_cell BK786.out 4).trans rfl⟩ (fun hHeld => ?_); refine with_tabW quoinlaw03_EncAlone.tab20 quoinlaw03_EncAlone.bits20 (fun HT_ HW_ => ?_)
                       generalize wc.drew = w62 at HO_14 BK786 BK787 HB hHeld ⊢
                       refine pure_ (i := 0) (N := some 121) (v := ?_) (a' := ?_) quoinlaw03_EncAlone.m1 rfl rfl (any_of HT_.out (by kernel_rfl)) (fun _ _ _ h => h) (Or.inl ⟨by rfl, ?_⟩) ?_ ?_; rotate_left; · intro w'; go_simp; with_reducible rfl
                       rotate_left; · simp only [Act.put, List.setIfInBounds_toArray, List.set_cons_zero, List.set_cons_succ, i64_w, i32_w]; rfl
                       refine pure_ (i := 1) (N := some 122) (v := ?_) (a' := ?_) quoinlaw03_EncAlone.m2 rfl rfl (any_of HT_.out (by kernel_rfl)) (fun _ _ _ h => h) (Or.inl ⟨by rfl, ?_⟩) ?_ ?_; rotate_left; · intro w'; go_simp; with_reducible rfl
                       rotate_left; · simp only [Act.put, List.setIfInBounds_toArray, List.set_cons_zero, List.set_cons_succ, i64_w, i32_w]; rfl
                       refine pure_ (i := 2) (N := some 123) (v := ?_) (a' := ?_) quoinlaw03_EncAlone.m3 rfl rfl (any_of HT_.out (by kernel_rfl)) (fun _ _ _ h => h) (Or.inl ⟨by rfl, ?_⟩) ?_ ?_; rotate_left; · intro w'; go_simp; with_reducible rfl
                       rotate_left; · simp only [Act.put, List.setIfInBounds_toArray, List.set_cons_zero, List.set_cons_succ, i64_w, i32_w]; rfl
                       refine pure_ (i := 3) (N := some 124) (v := ?_) (a' := ?_) quoinlaw03_EncAlone.m4 rfl rfl (any_of HT_.out (by kernel_rfl)) (fun _ _ _ h => h) (Or.inl ⟨by rfl, ?_⟩) ?_ ?_; rotate_left; · intro w'; go_simp; with_reducible rfl
                       rotate_left; · simp only [Act.put, List.setIfInBounds_toArray, List.set_cons_zero, List.set_cons_succ, i64_w, i32_w]; rfl
                       refine pure_ (i := 4) (N := some 125) (v := ?_) (a' := ?_) quoinlaw03_EncAlone.m5 rfl rfl (any_of HT_.out (by kernel_rfl)) (fun _ _ _ h => h) (Or.inl ⟨by rfl, ?_⟩) ?_ ?_; rotate_left; · intro w'; go_simp; with_reducible rfl
                       rotate_left; · simp only [Act.put, List.setIfInBounds_toArray, List.set_cons_zero, List.set_cons_succ, i64_w, i32_w]; rfl
                       refine take_ (i := 5) (N := some 126) (v := ?_) (a' := ?_) quoinlaw03_EncAlone.m6 rfl rfl (take_ofW HT_.out HW_.out (by kernel_rfl)) (fun _ _ _ h => h) (Or.inl ⟨by rfl, ?_⟩) hHeld ?_ ?_
                       rotate_left
                       ·rintro w' ⟨s0, s1, s2, s3, s4⟩
                        go_simp
                        with_reducible rfl
                       rotate_left
                       ·simp only [Act.put, List.setIfInBounds_toArray, List.set_cons_zero, List.set_cons_succ, i64_w, i32_w]
                        rfl
                       refine pure_ (i := 6) (N := some 127) (v := ?_) (a' := ?_) quoinlaw03_EncAlone.m7 rfl rfl (any_of HT_.out (by kernel_rfl)) (fun _ _ _ h => h) (Or.inl ⟨by rfl, ?_⟩) ?_ ?_; rotate_left; · intro w'; go_simp; with_reducible rfl
                       rotate_left; · simp only [Act.put, List.setIfInBounds_toArray, List.set_cons_zero, List.set_cons_succ, i64_w, i32_w]; rfl
                       refine pure_ (i := 7) (N := some 128) (v := ?_) (a' := ?_) quoinlaw03_EncAlone.m8 rfl rfl (any_of HT_.out (by kernel_rfl)) (fun _ _ _ h => h) (Or.inl ⟨by rfl, ?_⟩) ?_ ?_; rotate_left; · intro w'; go_simp; with_reducible rfl
                       rotate_left; · simp only [Act.put, List.setIfInBounds_toArray, List.set_cons_zero, List.set_cons_succ, i64_w, i32_w]; rfl
                       refine pure_ (i := 8) (N := some 129) (v := undef) (a' := ?_) quoinlaw03_EncAlone.m9 rfl rfl (any_of HT_.out (by kernel_rfl)) (fun _ _ _ h => h) (Or.inr ⟨by rfl, rfl⟩) ?_ ?_
                       rotate_left
                       ·simp only [Act.put, List.setIfInBounds_toArray, List.set_cons_zero, List.set_cons_succ, i64_w, i32_w]
                        rfl
                       refine pure_ (i := 9) (N := some 130) (v := undef) (a' := ?_) quoinlaw03_EncAlone.m10 rfl rfl (any_of HT_.out (by kernel_rfl)) (fun _ _ _ h => h) (Or.inr ⟨by rfl, rfl⟩) ?_ ?_
                       rotate_left
                       ·simp only [Act.put, List.setIfInBounds_toArray, List.set_cons_zero, List.set_cons_succ, i64_w, i32_w]
                        rfl
                       refine pure_ (i := 10) (N := some 131) (v := undef) (a' := ?_) quoinlaw03_EncAlone.m11 rfl rfl (any_of HT_.out (by kernel_rfl)) (fun _ _ _ h => h) (Or.inr ⟨by rfl, rfl⟩) ?_ ?_
                       rotate_left
                       ·simp only [Act.put, List.setIfInBounds_toArray, List.set_cons_zero, List.set_cons_succ, i64_w, i32_w]
                        rfl
                       refine pure_ (i := 11) (N := some 132) (v := undef) (a' := ?_) quoinlaw03_EncAlone.m12 rfl rfl (any_of HT_.out (by kernel_rfl)) (fun _ _ _ h => h) (Or.inr ⟨by rfl, rfl⟩) ?_ ?_
                       rotate_left
                       ·simp only [Act.put, List.setIfInBounds_toArray, List.set_cons_zero, List.set_cons_succ, i64_w, i32_w]
                        rfl
                       refine pure_ (i := 12) (N := some 133) (v := undef) (a' := ?_) quoinlaw03_EncAlone.m13 rfl rfl (any_of HT_.out (by kernel_rfl)) (fun _ _ _ h => h) (Or.inr ⟨by rfl, rfl⟩) ?_ ?_
                       rotate_left
                       ·simp only [Act.put, List.setIfInBounds_toArray, List.set_cons_zero, List.set_cons_succ, i64_w, i32_w]
                        rfl
                       refine pure_ (i := 13) (N := some 134) (v := ?_) (a' := ?_) quoinlaw03_EncAlone.m14 rfl rfl (any_of HT_.out (by kernel_rfl)) (fun _ _ _ h => h) (Or.inl ⟨by rfl, ?_⟩) ?_ ?_; rotate_left; · intro w'; go_simp; with_reducible rfl
                       rotate_left; · simp only [Act.put, List.setIfInBounds_toArray, List.set_cons_zero, List.set_cons_succ, i64_w, i32_w]; rfl
                       refine pure_ (i := 14) (N := some 135) (v := ?_) (a' := ?_) quoinlaw03_EncAlone.m15 rfl rfl (any_of HT_.out (by kernel_rfl)) (fun _ _ _ h => h) (Or.inl ⟨by rfl, ?_⟩) ?_ ?_; rotate_left; · intro w'; go_simp; with_reducible rfl
                       rotate_left; · simp only [Act.put, List.setIfInBounds_toArray, List.set_cons_zero, List.set_cons_succ, i64_w, i32_w]; rfl
                       refine pure_ (i := 15) (N := some 136) (v := ?_) (a' := ?_) quoinlaw03_EncAlone.m16 rfl rfl (any_of HT_.out (by kernel_rfl)) (fun _ _ _ h => h) (Or.inl ⟨by rfl, ?_⟩) ?_ ?_; rotate_left; · intro w'; go_simp; with_reducible rfl
                       rotate_left; · simp only [Act.put, List.setIfInBounds_toArray, List.set_cons_zero, List.set_cons_succ, i64_w, i32_w]; rfl
                       refine pure_ (i := 16) (N := some 137) (v := ?_) (a' := ?_) quoinlaw03_EncAlone.m17 rfl rfl (any_of HT_.out (by kernel_rfl)) (fun _ _ _ h => h) (Or.inl ⟨by rfl, ?_⟩) ?_ ?_; rotate_left; · intro w'; go_simp; with_reducible rfl
                       rotate_left; · simp only [Act.put, List.setIfInBounds_toArray, List.set_cons_zero, List.set_cons_succ, i64_w, i32_w]; rfl
                       refine take_ (i := 17) (N := some 138) (v := ?_) (a' := ?_) quoinlaw03_EncAlone.m18 rfl rfl (take_ofW HT_.out HW_.out (by kernel_rfl)) (fun _ _ _ h => h) (Or.inl ⟨by rfl, ?_⟩) hHeld ?_ ?_
                       rotate_left
                       ·rintro w' ⟨s0, s1, s2, s3, s4⟩
                        go_simp
                        with_reducible rfl
                       rotate_left
                       ·simp only [Act.put, List.setIfInBounds_toArray, List.set_cons_zero, List.set_cons_succ, i64_w, i32_w]
                        rfl
                       refine pure_ (i := 18) (N := some 139) (v := ?_) (a' := ?_) quoinlaw03_EncAlone.m19 rfl rfl (any_of HT_.out (by kernel_rfl)) (fun _ _ _ h => h) (Or.inl ⟨by rfl, ?_⟩) ?_ ?_; rotate_left; · intro w'; go_simp; with_reducible rfl
                       rotate_left; · simp only [Act.put, List.setIfInBounds_toArray, List.set_cons_zero, List.set_cons_succ, i64_w, i32_w]; rfl
                       refine pure_ (i := 19) (N := some 140) (v := ?_) (a' := ?_) quoinlaw03_EncAlone.m20 rfl rfl (any_of HT_.out (by kernel_rfl)) (fun _ _ _ h => h) (Or.inl ⟨by rfl, ?_⟩) ?_ ?_; rotate_left; · intro w'; go_simp; with_reducible rfl
                       rotate_left; · simp only [Act.put, List.setIfInBounds_toArray, List.set_cons_zero, List.set_cons_succ, i64_w, i32_w]; rfl
                       refine pure_ (i := 20) (N := some 141) (v := undef) (a' := ?_) quoinlaw03_EncAlone.m21 rfl rfl (any_of HT_.out (by kernel_rfl)) (fun _ _ _ h => h) (Or.inr ⟨by rfl, rfl⟩) ?_ ?_
                       rotate_left
                       ·simp only [Act.put, List.setIfInBounds_toArray, List.set_cons_zero, List.set_cons_succ, i64_w, i32_w]
                        rfl
                       refine pure_ (i := 21) (N := some 142) (v := undef) (a' := ?_) quoinlaw03_EncAlone.m22 rfl rfl (any_of HT_.out (by kernel_rfl)) (fun _ _ _ h => h) (Or.inr ⟨by rfl, rfl⟩) ?_ ?_
                       rotate_left
                       ·simp only [Act.put, List.setIfInBounds_toArray, List.set_cons_zero, List.set_cons_succ, i64_w, i32_w]
                        rfl
                       refine pure_ (i := 22) (N := some 143) (v := undef) (a' := ?_) quoinlaw03_EncAlone.m23 rfl rfl (any_of HT_.out (by kernel_rfl)) (fun _ _ _ h => h) (Or.inr ⟨by rfl, rfl⟩) ?_ ?_
                       rotate_left
                       ·simp only [Act.put, List.setIfInBounds_toArray, List.set_cons_zero, List.set_cons_succ, i64_w, i32_w]
                        rfl
                       refine pure_ (i := 23) (N := some 144) (v := undef) (a' := ?_) quoinlaw03_EncAlone.m24 rfl rfl (any_of HT_.out (by kernel_rfl)) (fun _ _ _ h => h) (Or.inr ⟨by rfl, rfl⟩) ?_ ?_
                       rotate_left
                       ·simp only [Act.put, List.setIfInBounds_toArray, List.set_cons_zero, List.set_cons_succ, i64_w, i32_w]
                        rfl
                       refine pure_ (i := 24) (N := some 145) (v := undef) (a' := ?_) quoinlaw03_EncAlone.m25 rfl rfl (any_of HT_.out (by kernel_rfl)) (fun _ _ _ h => h) (Or.inr ⟨by rfl, rfl⟩) ?_ ?_
                       rotate_left
                       ·simp only [Act.put, List.setIfInBounds_toArray, List.set_cons_zero, List.set_cons_succ, i64_w, i32_w]
                        rfl
                       refine pure_ (i := 25) (N := some 146) (v := ?_) (a' := ?_) quoinlaw03_EncAlone.m26 rfl rfl (any_of HT_.out (by kernel_rfl)) (fun _ _ _ h => h) (Or.inl ⟨by rfl, ?_⟩) ?_ ?_; rotate_left; · intro w'; go_simp; with_reducible rfl
                       rotate_left; · simp only [Act.put, List.setIfInBounds_toArray, List.set_cons_zero, List.set_cons_succ, i64_w, i32_w]; rfl
                       refine pure_ (i := 26) (N := some 147) (v := ?_) (a' := ?_) quoinlaw03_EncAlone.m27 rfl rfl (any_of HT_.out (by kernel_rfl)) (fun _ _ _ h => h) (Or.inl ⟨by rfl, ?_⟩) ?_ ?_; rotate_left; · intro w'; go_simp; with_reducible rfl
                       rotate_left; · simp only [Act.put, List.setIfInBounds_toArray, List.set_cons_zero, List.set_cons_succ, i64_w, i32_w]; rfl
                       refine pure_ (i := 27) (N := some 148) (v := ?_) (a' := ?_) quoinlaw03_EncAlone.m28 rfl rfl (any_of HT_.out (by kernel_rfl)) (fun _ _ _ h => h) (Or.inl ⟨by rfl, ?_⟩) ?_ ?_; rotate_left; · intro w'; go_simp; with_reducible rfl
                       rotate_left; · simp only [Act.put, List.setIfInBounds_toArray, List.set_cons_zero, List.set_cons_succ, i64_w, i32_w]; rfl
                       refine pure_ (i := 28) (N := some 149) (v := ?_) (a' := ?_) quoinlaw03_EncAlone.m29 rfl rfl (any_of HT_.out (by kernel_rfl)) (fun _ _ _ h => h) (Or.inl ⟨by rfl, ?_⟩) ?_ ?_; rotate_left; · intro w'; go_simp; with_reducible rfl
                       rotate_left; · simp only [Act.put, List.setIfInBounds_toArray, List.set_cons_zero, List.set_cons_succ, i64_w, i32_w]; rfl
                       refine take_ (i := 29) (N := some 150) (v := ?_) (a' := ?_) quoinlaw03_EncAlone.m30 rfl rfl (take_ofW HT_.out HW_.out (by kernel_rfl)) (fun _ _ _ h => h) (Or.inl ⟨by rfl, ?_⟩) hHeld ?_ ?_
                       rotate_left
                       ·rintro w' ⟨s0, s1, s2, s3, s4⟩
                        go_simp
                        with_reducible rfl
                       rotate_left
                       ·simp only [Act.put, List.setIfInBounds_toArray, List.set_cons_zero, List.set_cons_succ, i64_w, i32_w]
                        rfl
                       refine pure_ (i := 30) (N := some 151) (v := ?_) (a' := ?_) quoinlaw03_EncAlone.m31 rfl rfl (any_of HT_.out (by kernel_rfl)) (fun _ _ _ h => h) (Or.inl ⟨by rfl, ?_⟩) ?_ ?_; rotate_left; · intro w'; go_simp; with_reducible rfl
                       rotate_left; · simp only [Act.put, List.setIfInBounds_toArray, List.set_cons_zero, List.set_cons_succ, i64_w, i32_w]; rfl
                       refine pure_ (i := 31) (N := some 152) (v := ?_) (a' := ?_) quoinlaw03_EncAlone.m32 rfl rfl (any_of HT_.out (by kernel_rfl)) (fun _ _ _ h => h) (Or.inl ⟨by rfl, ?_⟩) ?_ ?_; rotate_left; · intro w'; go_simp; with_reducible rfl
                       rotate_left; · simp only [Act.put, List.setIfInBounds_toArray, List.set_cons_zero, List.set_cons_succ, i64_w, i32_w]; rfl
                       refine pure_ (i := 32) (N := some 153) (v := undef) (a' := ?_) quoinlaw03_EncAlone.m33 rfl rfl (any_of HT_.out (by kernel_rfl)) (fun _ _ _ h => h) (Or.inr ⟨by rfl, rfl⟩) ?_ ?_
                       rotate_left
                       ·simp only [Act.put, List.setIfInBounds_toArray, List.set_cons_zero, List.set_cons_succ, i64_w, i32_w]
                        rfl
                       refine pure_ (i := 33) (N := some 154) (v := undef) (a' := ?_) quoinlaw03_EncAlone.m34 rfl rfl (any_of HT_.out (by kernel_rfl)) (fun _ _ _ h => h) (Or.inr ⟨by rfl, rfl⟩) ?_ ?_
                       rotate_left
                       ·simp only [Act.put, List.setIfInBounds_toArray, List.set_cons_zero, List.set_cons_succ, i64_w, i32_w]
                        rfl
                       refine pure_ (i := 34) (N := some 155) (v := undef) (a' := ?_) quoinlaw03_EncAlone.m35 rfl rfl (any_of HT_.out (by kernel_rfl)) (fun _ _ _ h => h) (Or.inr ⟨by rfl, rfl⟩) ?_ ?_
                       rotate_left
                       ·simp only [Act.put, List.setIfInBounds_toArray, List.set_cons_zero, List.set_cons_succ, i64_w, i32_w]
                        rfl
                       refine pure_ (i := 35) (N := some 156) (v := undef) (a' := ?_) quoinlaw03_EncAlone.m36 rfl rfl (any_of HT_.out (by kernel_rfl)) (fun _ _ _ h => h) (Or.inr ⟨by rfl, rfl⟩) ?_ ?_
                       rotate_left
                       ·simp only [Act.put, List.setIfInBounds_toArray, List.set_cons_zero, List.set_cons_succ, i64_w, i32_w]
                        rfl
                       refine pure_ (i := 36) (N := some 157) (v := undef) (a' := ?_) quoinlaw03_EncAlone.m37 rfl rfl (any_of HT_.out (by kernel_rfl)) (fun _ _ _ h => h) (Or.inr ⟨by rfl, rfl⟩) ?_ ?_
                       rotate_left
                       ·simp only [Act.put, List.setIfInBounds_toArray, List.set_cons_zero, List.set_cons_succ, i64_w, i32_w]
                        rfl
                       refine pure_ (i := 37) (N := some 158) (v := ?_) (a' := ?_) quoinlaw03_EncAlone.m38 rfl rfl (any_of HT_.out (by kernel_rfl)) (fun _ _ _ h => h) (Or.inl ⟨by rfl, ?_⟩) ?_ ?_; rotate_left; · intro w'; go_simp; with_reducible rfl
                       rotate_left; · simp only [Act.put, List.setIfInBounds_toArray, List.set_cons_zero, List.set_cons_succ, i64_w, i32_w]; rfl
                       refine pure_ (i := 38) (N := some 159) (v := ?_) (a' := ?_) quoinlaw03_EncAlone.m39 rfl rfl (any_of HT_.out (by kernel_rfl)) (fun _ _ _ h => h) (Or.inl ⟨by rfl, ?_⟩) ?_ ?_; rotate_left; · intro w'; go_simp; with_reducible rfl
                       rotate_left; · simp only [Act.put, List.setIfInBounds_toArray, List.set_cons_zero, List.set_cons_succ, i64_w, i32_w]; rfl
                       refine done_ (done_of HT_.out (by kernel_rfl)) ?_
                       try go_wp2_with (first | ((with_reducible refine gate_callee (f := 54) rfl ?_); refine goesL_ (some 163) rfl rfl Tryd.func54 (by kernel_rfl) rfl #[.int .u32 t802, .slice Ao37 t798.length co37] rfl (by (try simp only [List.map_toArray, List.map_cons, List.map_nil]); first | done | rfl | (simp only [List.length_drop, List.length_take]; rfl)) ?_; (with_reducible refine (bits_Scatter.calls kj47 t802 _ _ t798 t804 t805 _ ?side1 ?side2 A59.out).mono ?_); (case side1 => repeat (first | exact (Kd.R_reads' HO_14.out).2.2 | (with_reducible refine Kd.C_alloc ?_ _) | (with_reducible refine Kd.C_drewN ?_ _) | (with_reducible refine Kd.C_drew ?_))); (case side2 => exact (Kd.R_reads' HO_14.out).2.1); rintro e w' ⟨rfl, ⟨nd, rfl⟩⟩; refine ⟨_, rfl, ?_⟩; have hnb63 := NB786_787.out; have hnc63 := NB787_786.out; have hcz64_0 : w62.cell? ⟨gb786, 0, none⟩ = some (.int .u8 a0_0) := (blk_cell BK786.out 0).trans rfl; have hcz64_1 : w62.cell? ⟨gb786, 1, none⟩ = some (.int .i64 a0_1) := (blk_cell BK786.out 1).trans rfl; have hcz64_2 : w62.cell? ⟨gb786, 2, none⟩ = some (.int .i64 a0_2) := (blk_cell BK786.out 2).trans rfl; have hcz64_3 : w62.cell? ⟨gb786, 3, none⟩ = some (.int .i64 a0_3) := (blk_cell BK786.out 3).trans rfl; have hcz64_4 : w62.cell? ⟨gb786, 4, none⟩ = some (.int .i64 a0_4) := (blk_cell BK786.out 4).trans rfl; have hfz64_0 := blk_frozen BK786.out 0; have hfz64_1 := blk_frozen BK786.out 1; have hfz64_2 := blk_frozen BK786.out 2; have hfz64_3 := blk_frozen BK786.out 3; have hfz64_4 := blk_frozen BK786.out 4))
                       go_ret
                       exact ⟨by first | rfl | (simp [errW_none, errW_some] <;> rfl) | (simp [*, errW_none, errW_some] <;> rfl), by repeat (first | (with_reducible first | exact HB.out | apply below_alloc | apply pw_below_drewN | apply below_drew1 | refine below_set ?_ GE786.out | refine below_set ?_ GE787.out) | exact HB.out)⟩
                     ·rw [if_neg c61] at H
                      exact absurd H (by simp)
                    ·rw [if_neg c60] at H
                     exact absurd H (by simp)
                   ·rw [if_neg c58] at H
                    have c58b0 : (a0_3 == 0) = false := beq_eq_false_iff_ne.mpr c58
                    have c58b1 : (a0_3 != 0) = true := bne_iff_ne.mpr c58
                    replace H := Option.bind_eq_some_iff.mp H
                    obtain ⟨t806, A650, H⟩ := H
                    have A65 := Aside0.mk A650
                    clear A650
                    by_cases c66 : t806 = a0_3
                    ·rw [if_pos c66] at H
                     have c66b0 : (t806 == a0_3) = true := beq_iff_eq.mpr c66
                     have c66b1 : (t806 != a0_3) = false := bne_eq_false_iff_eq.mpr c66
                     clear c66
                     replace H := Option.bind_eq_some_iff.mp H
                     obtain ⟨⟨t807, t808⟩, A670, H⟩ := H
                     have A67 := Aside0.mk A670
                     clear A670
                     by_cases c68 : t808 = 0
                     ·rw [if_pos c68] at H
                      have c68b0 : (t808 == 0) = true := beq_iff_eq.mpr c68
                      have c68b1 : (t808 != 0) = false := bne_eq_false_iff_eq.mpr c68
                      clear c68
                      by_cases c69 : t789 = (Go.bits .or .u32 (Go.bits .or .u32 (Go.bits .or .u32 (Go.bits .or .u32 t796 t807) ((((a0_1) % 4294967296) * 128) % 4294967296)) ((((a0_2) % 4294967296) * 32768) % 4294967296)) ((((a0_3) % 4294967296) * 1048576) % 4294967296))
                      ·rw [if_pos c69] at H
                       have c69b0 : (t789 == (Go.bits .or .u32 (Go.bits .or .u32 (Go.bits .or .u32 (Go.bits .or .u32 t796 t807) ((((a0_1) % 4294967296) * 128) % 4294967296)) ((((a0_2) % 4294967296) * 32768) % 4294967296)) ((((a0_3) % 4294967296) * 1048576) % 4294967296))) = true := beq_iff_eq.mpr c69
                       have c69b1 : (t789 != (Go.bits .or .u32 (Go.bits .or .u32 (Go.bits .or .u32 (Go.bits .or .u32 t796 t807) ((((a0_1) % 4294967296) * 128) % 4294967296)) ((((a0_2) % 4294967296) * 32768) % 4294967296)) ((((a0_3) % 4294967296) * 1048576) % 4294967296))) = false := bne_eq_false_iff_eq.mpr c69
                       clear c69
                       obtain rfl := Option.some.inj H
                       try go_wp2
                       have n0_ := Aside0.mk (Kd.R_drew HO_14.out)
                       have n1_ := Aside0.mk (blk_drew BK786.out)
                       have n2_ := Aside0.mk (blk_drew BK787.out)
                       have n3_ := Aside0.mk (below_drew1 HB.out)
                       clear HO_14
                       clear BK786
                       clear BK787
                       clear HB
                       have HO_14 := n0_
                       have BK786 := n1_
                       have BK787 := n2_
                       have HB := n3_
                       clear n0_ n1_ n2_ n3_
                       as_aux_lemma =>
                        refine start_ (n := 39) (S := fun w' => w'.cell? ⟨gb786, 0, none⟩ = some (.int .u8 a0_0) ∧ w'.cell? ⟨gb786, 1, none⟩ = some (.int .i64 a0_1) ∧ w'.cell? ⟨gb786, 2, none⟩ = some (.int .i64 a0_2) ∧ w'.cell? ⟨gb786, 3, none⟩ = some (.int .i64 a0_3) ∧ w'.cell? ⟨gb786, 4, none⟩ = some (.int .i64 a0_4)) (ds := []) quoinlaw03_EncAlone.m0 (by kernel_rfl) rfl rfl ⟨(blk_cell BK786.out 0).trans rfl, (blk_cell BK786.out 1).trans rfl, (blk_cell BK786.out 2).trans rfl, (blk_cell BK786.out 3).trans rfl, (blk_cell BK786.out 4).trans rfl⟩ (fun hHeld => ?_); refine with_tabW quoinlaw03_EncAlone.tab20 quoinlaw03_EncAlone.bits20 (fun HT_ HW_ => ?_)
                        generalize wc.drew = w70 at HO_14 BK786 BK787 HB hHeld ⊢
                        refine pure_ (i := 0) (N := some 121) (v := ?_) (a' := ?_) quoinlaw03_EncAlone.m1 rfl rfl (any_of HT_.out (by kernel_rfl)) (fun _ _ _ h => h) (Or.inl ⟨by rfl, ?_⟩) ?_ ?_; rotate_left; · intro w'; go_simp; with_reducible rfl
                        rotate_left; · simp only [Act.put, List.setIfInBounds_toArray, List.set_cons_zero, List.set_cons_succ, i64_w, i32_w]; rfl
                        refine pure_ (i := 1) (N := some 122) (v := ?_) (a' := ?_) quoinlaw03_EncAlone.m2 rfl rfl (any_of HT_.out (by kernel_rfl)) (fun _ _ _ h => h) (Or.inl ⟨by rfl, ?_⟩) ?_ ?_; rotate_left; · intro w'; go_simp; with_reducible rfl
                        rotate_left; · simp only [Act.put, List.setIfInBounds_toArray, List.set_cons_zero, List.set_cons_succ, i64_w, i32_w]; rfl
                        refine pure_ (i := 2) (N := some 123) (v := ?_) (a' := ?_) quoinlaw03_EncAlone.m3 rfl rfl (any_of HT_.out (by kernel_rfl)) (fun _ _ _ h => h) (Or.inl ⟨by rfl, ?_⟩) ?_ ?_; rotate_left; · intro w'; go_simp; with_reducible rfl
                        rotate_left; · simp only [Act.put, List.setIfInBounds_toArray, List.set_cons_zero, List.set_cons_succ, i64_w, i32_w]; rfl
                        refine pure_ (i := 3) (N := some 124) (v := ?_) (a' := ?_) quoinlaw03_EncAlone.m4 rfl rfl (any_of HT_.out (by kernel_rfl)) (fun _ _ _ h => h) (Or.inl ⟨by rfl, ?_⟩) ?_ ?_; rotate_left; · intro w'; go_simp; with_reducible rfl
                        rotate_left; · simp only [Act.put, List.setIfInBounds_toArray, List.set_cons_zero, List.set_cons_succ, i64_w, i32_w]; rfl
                        refine pure_ (i := 4) (N := some 125) (v := ?_) (a' := ?_) quoinlaw03_EncAlone.m5 rfl rfl (any_of HT_.out (by kernel_rfl)) (fun _ _ _ h => h) (Or.inl ⟨by rfl, ?_⟩) ?_ ?_; rotate_left; · intro w'; go_simp; with_reducible rfl
                        rotate_left; · simp only [Act.put, List.setIfInBounds_toArray, List.set_cons_zero, List.set_cons_succ, i64_w, i32_w]; rfl
                        refine take_ (i := 5) (N := some 126) (v := ?_) (a' := ?_) quoinlaw03_EncAlone.m6 rfl rfl (take_ofW HT_.out HW_.out (by kernel_rfl)) (fun _ _ _ h => h) (Or.inl ⟨by rfl, ?_⟩) hHeld ?_ ?_
                        rotate_left
                        ·rintro w' ⟨s0, s1, s2, s3, s4⟩
                         go_simp
                         with_reducible rfl
                        rotate_left
                        ·simp only [Act.put, List.setIfInBounds_toArray, List.set_cons_zero, List.set_cons_succ, i64_w, i32_w]
                         rfl
                        refine pure_ (i := 6) (N := some 127) (v := ?_) (a' := ?_) quoinlaw03_EncAlone.m7 rfl rfl (any_of HT_.out (by kernel_rfl)) (fun _ _ _ h => h) (Or.inl ⟨by rfl, ?_⟩) ?_ ?_; rotate_left; · intro w'; go_simp; with_reducible rfl
                        rotate_left; · simp only [Act.put, List.setIfInBounds_toArray, List.set_cons_zero, List.set_cons_succ, i64_w, i32_w]; rfl
                        refine pure_ (i := 7) (N := some 128) (v := ?_) (a' := ?_) quoinlaw03_EncAlone.m8 rfl rfl (any_of HT_.out (by kernel_rfl)) (fun _ _ _ h => h) (Or.inl ⟨by rfl, ?_⟩) ?_ ?_; rotate_left; · intro w'; go_simp; with_reducible rfl
                        rotate_left; · simp only [Act.put, List.setIfInBounds_toArray, List.set_cons_zero, List.set_cons_succ, i64_w, i32_w]; rfl
                        refine pure_ (i := 8) (N := some 129) (v := undef) (a' := ?_) quoinlaw03_EncAlone.m9 rfl rfl (any_of HT_.out (by kernel_rfl)) (fun _ _ _ h => h) (Or.inr ⟨by rfl, rfl⟩) ?_ ?_
                        rotate_left
                        ·simp only [Act.put, List.setIfInBounds_toArray, List.set_cons_zero, List.set_cons_succ, i64_w, i32_w]
                         rfl
                        refine pure_ (i := 9) (N := some 130) (v := undef) (a' := ?_) quoinlaw03_EncAlone.m10 rfl rfl (any_of HT_.out (by kernel_rfl)) (fun _ _ _ h => h) (Or.inr ⟨by rfl, rfl⟩) ?_ ?_
                        rotate_left
                        ·simp only [Act.put, List.setIfInBounds_toArray, List.set_cons_zero, List.set_cons_succ, i64_w, i32_w]
                         rfl
                        refine pure_ (i := 10) (N := some 131) (v := undef) (a' := ?_) quoinlaw03_EncAlone.m11 rfl rfl (any_of HT_.out (by kernel_rfl)) (fun _ _ _ h => h) (Or.inr ⟨by rfl, rfl⟩) ?_ ?_
                        rotate_left
                        ·simp only [Act.put, List.setIfInBounds_toArray, List.set_cons_zero, List.set_cons_succ, i64_w, i32_w]
                         rfl
                        refine pure_ (i := 11) (N := some 132) (v := undef) (a' := ?_) quoinlaw03_EncAlone.m12 rfl rfl (any_of HT_.out (by kernel_rfl)) (fun _ _ _ h => h) (Or.inr ⟨by rfl, rfl⟩) ?_ ?_
                        rotate_left
                        ·simp only [Act.put, List.setIfInBounds_toArray, List.set_cons_zero, List.set_cons_succ, i64_w, i32_w]
                         rfl
                        refine pure_ (i := 12) (N := some 133) (v := undef) (a' := ?_) quoinlaw03_EncAlone.m13 rfl rfl (any_of HT_.out (by kernel_rfl)) (fun _ _ _ h => h) (Or.inr ⟨by rfl, rfl⟩) ?_ ?_
                        rotate_left
                        ·simp only [Act.put, List.setIfInBounds_toArray, List.set_cons_zero, List.set_cons_succ, i64_w, i32_w]
                         rfl
                        refine pure_ (i := 13) (N := some 134) (v := ?_) (a' := ?_) quoinlaw03_EncAlone.m14 rfl rfl (any_of HT_.out (by kernel_rfl)) (fun _ _ _ h => h) (Or.inl ⟨by rfl, ?_⟩) ?_ ?_; rotate_left; · intro w'; go_simp; with_reducible rfl
                        rotate_left; · simp only [Act.put, List.setIfInBounds_toArray, List.set_cons_zero, List.set_cons_succ, i64_w, i32_w]; rfl
                        refine pure_ (i := 14) (N := some 135) (v := ?_) (a' := ?_) quoinlaw03_EncAlone.m15 rfl rfl (any_of HT_.out (by kernel_rfl)) (fun _ _ _ h => h) (Or.inl ⟨by rfl, ?_⟩) ?_ ?_; rotate_left; · intro w'; go_simp; with_reducible rfl
                        rotate_left; · simp only [Act.put, List.setIfInBounds_toArray, List.set_cons_zero, List.set_cons_succ, i64_w, i32_w]; rfl
                        refine pure_ (i := 15) (N := some 136) (v := ?_) (a' := ?_) quoinlaw03_EncAlone.m16 rfl rfl (any_of HT_.out (by kernel_rfl)) (fun _ _ _ h => h) (Or.inl ⟨by rfl, ?_⟩) ?_ ?_; rotate_left; · intro w'; go_simp; with_reducible rfl
                        rotate_left; · simp only [Act.put, List.setIfInBounds_toArray, List.set_cons_zero, List.set_cons_succ, i64_w, i32_w]; rfl
                        refine pure_ (i := 16) (N := some 137) (v := ?_) (a' := ?_) quoinlaw03_EncAlone.m17 rfl rfl (any_of HT_.out (by kernel_rfl)) (fun _ _ _ h => h) (Or.inl ⟨by rfl, ?_⟩) ?_ ?_; rotate_left; · intro w'; go_simp; with_reducible rfl
                        rotate_left; · simp only [Act.put, List.setIfInBounds_toArray, List.set_cons_zero, List.set_cons_succ, i64_w, i32_w]; rfl
                        refine take_ (i := 17) (N := some 138) (v := ?_) (a' := ?_) quoinlaw03_EncAlone.m18 rfl rfl (take_ofW HT_.out HW_.out (by kernel_rfl)) (fun _ _ _ h => h) (Or.inl ⟨by rfl, ?_⟩) hHeld ?_ ?_
                        rotate_left
                        ·rintro w' ⟨s0, s1, s2, s3, s4⟩
                         go_simp
                         with_reducible rfl
                        rotate_left
                        ·simp only [Act.put, List.setIfInBounds_toArray, List.set_cons_zero, List.set_cons_succ, i64_w, i32_w]
                         rfl
                        refine pure_ (i := 18) (N := some 139) (v := ?_) (a' := ?_) quoinlaw03_EncAlone.m19 rfl rfl (any_of HT_.out (by kernel_rfl)) (fun _ _ _ h => h) (Or.inl ⟨by rfl, ?_⟩) ?_ ?_; rotate_left; · intro w'; go_simp; with_reducible rfl
                        rotate_left; · simp only [Act.put, List.setIfInBounds_toArray, List.set_cons_zero, List.set_cons_succ, i64_w, i32_w]; rfl
                        refine pure_ (i := 19) (N := some 140) (v := ?_) (a' := ?_) quoinlaw03_EncAlone.m20 rfl rfl (any_of HT_.out (by kernel_rfl)) (fun _ _ _ h => h) (Or.inl ⟨by rfl, ?_⟩) ?_ ?_; rotate_left; · intro w'; go_simp; with_reducible rfl
                        rotate_left; · simp only [Act.put, List.setIfInBounds_toArray, List.set_cons_zero, List.set_cons_succ, i64_w, i32_w]; rfl
                        refine pure_ (i := 20) (N := some 141) (v := undef) (a' := ?_) quoinlaw03_EncAlone.m21 rfl rfl (any_of HT_.out (by kernel_rfl)) (fun _ _ _ h => h) (Or.inr ⟨by rfl, rfl⟩) ?_ ?_
                        rotate_left
                        ·simp only [Act.put, List.setIfInBounds_toArray, List.set_cons_zero, List.set_cons_succ, i64_w, i32_w]
                         rfl
                        refine pure_ (i := 21) (N := some 142) (v := undef) (a' := ?_) quoinlaw03_EncAlone.m22 rfl rfl (any_of HT_.out (by kernel_rfl)) (fun _ _ _ h => h) (Or.inr ⟨by rfl, rfl⟩) ?_ ?_
                        rotate_left
                        ·simp only [Act.put, List.setIfInBounds_toArray, List.set_cons_zero, List.set_cons_succ, i64_w, i32_w]
                         rfl
                        refine pure_ (i := 22) (N := some 143) (v := undef) (a' := ?_) quoinlaw03_EncAlone.m23 rfl rfl (any_of HT_.out (by kernel_rfl)) (fun _ _ _ h => h) (Or.inr ⟨by rfl, rfl⟩) ?_ ?_
                        rotate_left
                        ·simp only [Act.put, List.setIfInBounds_toArray, List.set_cons_zero, List.set_cons_succ, i64_w, i32_w]
                         rfl
                        refine pure_ (i := 23) (N := some 144) (v := undef) (a' := ?_) quoinlaw03_EncAlone.m24 rfl rfl (any_of HT_.out (by kernel_rfl)) (fun _ _ _ h => h) (Or.inr ⟨by rfl, rfl⟩) ?_ ?_
                        rotate_left
                        ·simp only [Act.put, List.setIfInBounds_toArray, List.set_cons_zero, List.set_cons_succ, i64_w, i32_w]
                         rfl
                        refine pure_ (i := 24) (N := some 145) (v := undef) (a' := ?_) quoinlaw03_EncAlone.m25 rfl rfl (any_of HT_.out (by kernel_rfl)) (fun _ _ _ h => h) (Or.inr ⟨by rfl, rfl⟩) ?_ ?_
                        rotate_left
                        ·simp only [Act.put, List.setIfInBounds_toArray, List.set_cons_zero, List.set_cons_succ, i64_w, i32_w]
                         rfl
                        refine pure_ (i := 25) (N := some 146) (v := ?_) (a' := ?_) quoinlaw03_EncAlone.m26 rfl rfl (any_of HT_.out (by kernel_rfl)) (fun _ _ _ h => h) (Or.inl ⟨by rfl, ?_⟩) ?_ ?_; rotate_left; · intro w'; go_simp; with_reducible rfl
                        rotate_left; · simp only [Act.put, List.setIfInBounds_toArray, List.set_cons_zero, List.set_cons_succ, i64_w, i32_w]; rfl
                        refine pure_ (i := 26) (N := some 147) (v := ?_) (a' := ?_) quoinlaw03_EncAlone.m27 rfl rfl (any_of HT_.out (by kernel_rfl)) (fun _ _ _ h => h) (Or.inl ⟨by rfl, ?_⟩) ?_ ?_; rotate_left; · intro w'; go_simp; with_reducible rfl
                        rotate_left; · simp only [Act.put, List.setIfInBounds_toArray, List.set_cons_zero, List.set_cons_succ, i64_w, i32_w]; rfl
                        refine pure_ (i := 27) (N := some 148) (v := ?_) (a' := ?_) quoinlaw03_EncAlone.m28 rfl rfl (any_of HT_.out (by kernel_rfl)) (fun _ _ _ h => h) (Or.inl ⟨by rfl, ?_⟩) ?_ ?_; rotate_left; · intro w'; go_simp; with_reducible rfl
                        rotate_left; · simp only [Act.put, List.setIfInBounds_toArray, List.set_cons_zero, List.set_cons_succ, i64_w, i32_w]; rfl
                        refine pure_ (i := 28) (N := some 149) (v := ?_) (a' := ?_) quoinlaw03_EncAlone.m29 rfl rfl (any_of HT_.out (by kernel_rfl)) (fun _ _ _ h => h) (Or.inl ⟨by rfl, ?_⟩) ?_ ?_; rotate_left; · intro w'; go_simp; with_reducible rfl
                        rotate_left; · simp only [Act.put, List.setIfInBounds_toArray, List.set_cons_zero, List.set_cons_succ, i64_w, i32_w]; rfl
                        refine take_ (i := 29) (N := some 150) (v := ?_) (a' := ?_) quoinlaw03_EncAlone.m30 rfl rfl (take_ofW HT_.out HW_.out (by kernel_rfl)) (fun _ _ _ h => h) (Or.inl ⟨by rfl, ?_⟩) hHeld ?_ ?_
                        rotate_left
                        ·rintro w' ⟨s0, s1, s2, s3, s4⟩
                         go_simp
                         with_reducible rfl
                        rotate_left
                        ·simp only [Act.put, List.setIfInBounds_toArray, List.set_cons_zero, List.set_cons_succ, i64_w, i32_w]
                         rfl
                        refine pure_ (i := 30) (N := some 151) (v := ?_) (a' := ?_) quoinlaw03_EncAlone.m31 rfl rfl (any_of HT_.out (by kernel_rfl)) (fun _ _ _ h => h) (Or.inl ⟨by rfl, ?_⟩) ?_ ?_; rotate_left; · intro w'; go_simp; with_reducible rfl
                        rotate_left; · simp only [Act.put, List.setIfInBounds_toArray, List.set_cons_zero, List.set_cons_succ, i64_w, i32_w]; rfl
                        refine pure_ (i := 31) (N := some 152) (v := ?_) (a' := ?_) quoinlaw03_EncAlone.m32 rfl rfl (any_of HT_.out (by kernel_rfl)) (fun _ _ _ h => h) (Or.inl ⟨by rfl, ?_⟩) ?_ ?_; rotate_left; · intro w'; go_simp; with_reducible rfl
                        rotate_left; · simp only [Act.put, List.setIfInBounds_toArray, List.set_cons_zero, List.set_cons_succ, i64_w, i32_w]; rfl
                        refine pure_ (i := 32) (N := some 153) (v := ?_) (a' := ?_) quoinlaw03_EncAlone.m33 rfl rfl (any_of HT_.out (by kernel_rfl)) (fun _ _ _ h => h) (Or.inl ⟨by rfl, ?_⟩) ?_ ?_; rotate_left; · intro w'; go_simp; with_reducible rfl
                        rotate_left; · simp only [Act.put, List.setIfInBounds_toArray, List.set_cons_zero, List.set_cons_succ, i64_w, i32_w]; rfl
                        refine pure_ (i := 34) (N := some 155) (v := ?_) (a' := ?_) quoinlaw03_EncAlone.m40 rfl rfl (any_of HT_.out (by kernel_rfl)) (fun _ _ _ h => h) (Or.inl ⟨by rfl, ?_⟩) ?_ ?_; rotate_left; · intro w'; go_simp; with_reducible rfl
                        rotate_left; · simp only [Act.put, List.setIfInBounds_toArray, List.set_cons_zero, List.set_cons_succ, i64_w, i32_w]; rfl
                        refine take_ (i := 35) (N := some 156) (v := ?_) (a' := ?_) quoinlaw03_EncAlone.m41 rfl rfl (take_ofW HT_.out HW_.out (by kernel_rfl)) (fun _ _ _ h => h) (Or.inl ⟨by rfl, ?_⟩) hHeld ?_ ?_
                        rotate_left
                        ·rintro w' ⟨s0, s1, s2, s3, s4⟩
                         go_simp
                         with_reducible rfl
                        rotate_left
                        ·simp only [Act.put, List.setIfInBounds_toArray, List.set_cons_zero, List.set_cons_succ, i64_w, i32_w]
                         rfl
                        refine one_ (i := 33) (N := some 154) quoinlaw03_EncAlone.m36 rfl rfl (one_of HT_.out (by kernel_rfl)) (by decide) (fun K hK => ?_)
                        refine goes_ Tryd.func53 (by kernel_rfl) rfl #[.int .u32 t789, .int .i64 20] (by rfl) rfl rfl (by (try simp only [List.map_toArray, List.map_cons, List.map_nil]); first | done | rfl | (simp only [List.length_drop, List.length_take]; rfl)) ?_
                        with_reducible refine (quoinlaw03_field.calls t789 20 t806 _ A65.out).mono ?_
                        rintro e w' ⟨rfl, ⟨nd, rfl⟩⟩
                        refine ⟨_, rfl, ?_⟩
                        refine hK.out _ _ ⟨(blk_cell BK786.out 0).trans rfl, (blk_cell BK786.out 1).trans rfl, (blk_cell BK786.out 2).trans rfl, (blk_cell BK786.out 3).trans rfl, (blk_cell BK786.out 4).trans rfl⟩ (fun hHeld => ?_)
                        clear hK K
                        refine norm_ (a' := ?_) ?_ ?_
                        rotate_left
                        ·show Act.put _ (some 154) _ = _
                         simp only [Act.put, List.setIfInBounds_toArray, List.set_cons_zero, List.set_cons_succ, i64_w, i32_w]
                         rfl
                        refine pure_ (i := 36) (N := some 157) (v := ?_) (a' := ?_) quoinlaw03_EncAlone.m37 rfl rfl (any_of HT_.out (by kernel_rfl)) (fun _ _ _ h => h) (Or.inl ⟨by rfl, ?_⟩) ?_ ?_; rotate_left; · intro w'; go_simp; with_reducible rfl
                        rotate_left; · simp only [Act.put, List.setIfInBounds_toArray, List.set_cons_zero, List.set_cons_succ, i64_w, i32_w]; rfl
                        refine pure_ (i := 37) (N := some 158) (v := ?_) (a' := ?_) quoinlaw03_EncAlone.m38 rfl rfl (any_of HT_.out (by kernel_rfl)) (fun _ _ _ h => h) (Or.inl ⟨by rfl, ?_⟩) ?_ ?_; rotate_left; · intro w'; go_simp; with_reducible rfl
                        rotate_left; · simp only [Act.put, List.setIfInBounds_toArray, List.set_cons_zero, List.set_cons_succ, i64_w, i32_w]; rfl
                        refine pure_ (i := 38) (N := some 159) (v := ?_) (a' := ?_) quoinlaw03_EncAlone.m39 rfl rfl (any_of HT_.out (by kernel_rfl)) (fun _ _ _ h => h) (Or.inl ⟨by rfl, ?_⟩) ?_ ?_; rotate_left; · intro w'; go_simp; with_reducible rfl
                        rotate_left; · simp only [Act.put, List.setIfInBounds_toArray, List.set_cons_zero, List.set_cons_succ, i64_w, i32_w]; rfl
                        refine done_ (done_of HT_.out (by kernel_rfl)) ?_
                        try go_wp2_with (first | ((with_reducible refine gate_callee (f := 54) rfl ?_); refine goesL_ (some 163) rfl rfl Tryd.func54 (by kernel_rfl) rfl #[.int .u32 t802, .slice Ao37 t798.length co37] rfl (by (try simp only [List.map_toArray, List.map_cons, List.map_nil]); first | done | rfl | (simp only [List.length_drop, List.length_take]; rfl)) ?_; (with_reducible refine (bits_Scatter.calls kj47 t802 _ _ t798 t807 t808 _ ?side1 ?side2 A67.out).mono ?_); (case side1 => repeat (first | exact (Kd.R_reads' HO_14.out).2.2 | (with_reducible refine Kd.C_alloc ?_ _) | (with_reducible refine Kd.C_drewN ?_ _) | (with_reducible refine Kd.C_drew ?_))); (case side2 => exact (Kd.R_reads' HO_14.out).2.1); rintro e w' ⟨rfl, ⟨nd, rfl⟩⟩; refine ⟨_, rfl, ?_⟩; have hnb71 := NB786_787.out; have hnc71 := NB787_786.out; have hcz72_0 : w70.cell? ⟨gb786, 0, none⟩ = some (.int .u8 a0_0) := (blk_cell BK786.out 0).trans rfl; have hcz72_1 : w70.cell? ⟨gb786, 1, none⟩ = some (.int .i64 a0_1) := (blk_cell BK786.out 1).trans rfl; have hcz72_2 : w70.cell? ⟨gb786, 2, none⟩ = some (.int .i64 a0_2) := (blk_cell BK786.out 2).trans rfl; have hcz72_3 : w70.cell? ⟨gb786, 3, none⟩ = some (.int .i64 a0_3) := (blk_cell BK786.out 3).trans rfl; have hcz72_4 : w70.cell? ⟨gb786, 4, none⟩ = some (.int .i64 a0_4) := (blk_cell BK786.out 4).trans rfl; have hfz72_0 := blk_frozen BK786.out 0; have hfz72_1 := blk_frozen BK786.out 1; have hfz72_2 := blk_frozen BK786.out 2; have hfz72_3 := blk_frozen BK786.out 3; have hfz72_4 := blk_frozen BK786.out 4))
                        go_ret
                        exact ⟨by first | rfl | (simp [errW_none, errW_some] <;> rfl) | (simp [*, errW_none, errW_some] <;> rfl), by repeat (first | (with_reducible first | exact HB.out | apply below_alloc | apply pw_below_drewN | apply below_drew1 | refine below_set ?_ GE786.out | refine below_set ?_ GE787.out) | exact HB.out)⟩
                      ·rw [if_neg c69] at H
                       exact absurd H (by simp)
                     ·rw [if_neg c68] at H
                      exact absurd H (by simp)
                    ·rw [if_neg c66] at H
                     exact absurd H (by simp)
                  ·rw [if_neg c57] at H
                   have c57b0 : (a0_2 == 0) = false := beq_eq_false_iff_ne.mpr c57
                   have c57b1 : (a0_2 != 0) = true := bne_iff_ne.mpr c57
                   replace H := Option.bind_eq_some_iff.mp H
                   obtain ⟨t809, A730, H⟩ := H
                   have A73 := Aside0.mk A730
                   clear A730
                   by_cases c74 : t809 = a0_2
                   ·rw [if_pos c74] at H
                    have c74b0 : (t809 == a0_2) = true := beq_iff_eq.mpr c74
                    have c74b1 : (t809 != a0_2) = false := bne_eq_false_iff_eq.mpr c74
                    clear c74
                    by_cases c75 : a0_3 = 0
                    ·rw [if_pos c75] at H
                     have c75b0 : (a0_3 == 0) = true := beq_iff_eq.mpr c75
                     have c75b1 : (a0_3 != 0) = false := bne_eq_false_iff_eq.mpr c75
                     clear c75
                     replace H := Option.bind_eq_some_iff.mp H
                     obtain ⟨⟨t810, t811⟩, A760, H⟩ := H
                     have A76 := Aside0.mk A760
                     clear A760
                     by_cases c77 : t811 = 0
                     ·rw [if_pos c77] at H
                      have c77b0 : (t811 == 0) = true := beq_iff_eq.mpr c77
                      have c77b1 : (t811 != 0) = false := bne_eq_false_iff_eq.mpr c77
                      clear c77
                      by_cases c78 : t789 = (Go.bits .or .u32 (Go.bits .or .u32 (Go.bits .or .u32 (Go.bits .or .u32 t796 t810) ((((a0_1) % 4294967296) * 128) % 4294967296)) ((((a0_2) % 4294967296) * 32768) % 4294967296)) ((((a0_3) % 4294967296) * 1048576) % 4294967296))
                      ·rw [if_pos c78] at H
                       have c78b0 : (t789 == (Go.bits .or .u32 (Go.bits .or .u32 (Go.bits .or .u32 (Go.bits .or .u32 t796 t810) ((((a0_1) % 4294967296) * 128) % 4294967296)) ((((a0_2) % 4294967296) * 32768) % 4294967296)) ((((a0_3) % 4294967296) * 1048576) % 4294967296))) = true := beq_iff_eq.mpr c78
                       have c78b1 : (t789 != (Go.bits .or .u32 (Go.bits .or .u32 (Go.bits .or .u32 (Go.bits .or .u32 t796 t810) ((((a0_1) % 4294967296) * 128) % 4294967296)) ((((a0_2) % 4294967296) * 32768) % 4294967296)) ((((a0_3) % 4294967296) * 1048576) % 4294967296))) = false := bne_eq_false_iff_eq.mpr c78
                       clear c78
                       obtain rfl := Option.some.inj H
                       try go_wp2
                       have n0_ := Aside0.mk (Kd.R_drew HO_14.out)
                       have n1_ := Aside0.mk (blk_drew BK786.out)
                       have n2_ := Aside0.mk (blk_drew BK787.out)
                       have n3_ := Aside0.mk (below_drew1 HB.out)
                       clear HO_14
                       clear BK786
                       clear BK787
                       clear HB
                       have HO_14 := n0_
                       have BK786 := n1_
                       have BK787 := n2_
                       have HB := n3_
                       clear n0_ n1_ n2_ n3_
                       as_aux_lemma =>
                        refine start_ (n := 39) (S := fun w' => w'.cell? ⟨gb786, 0, none⟩ = some (.int .u8 a0_0) ∧ w'.cell? ⟨gb786, 1, none⟩ = some (.int .i64 a0_1) ∧ w'.cell? ⟨gb786, 2, none⟩ = some (.int .i64 a0_2) ∧ w'.cell? ⟨gb786, 3, none⟩ = some (.int .i64 a0_3) ∧ w'.cell? ⟨gb786, 4, none⟩ = some (.int .i64 a0_4)) (ds := []) quoinlaw03_EncAlone.m0 (by kernel_rfl) rfl rfl ⟨(blk_cell BK786.out 0).trans rfl, (blk_cell BK786.out 1).trans rfl, (blk_cell BK786.out 2).trans rfl, (blk_cell BK786.out 3).trans rfl, (blk_cell BK786.out 4).trans rfl⟩ (fun hHeld => ?_); refine with_tabW quoinlaw03_EncAlone.tab20 quoinlaw03_EncAlone.bits20 (fun HT_ HW_ => ?_)
                        generalize wc.drew = w79 at HO_14 BK786 BK787 HB hHeld ⊢
                        refine pure_ (i := 0) (N := some 121) (v := ?_) (a' := ?_) quoinlaw03_EncAlone.m1 rfl rfl (any_of HT_.out (by kernel_rfl)) (fun _ _ _ h => h) (Or.inl ⟨by rfl, ?_⟩) ?_ ?_; rotate_left; · intro w'; go_simp; with_reducible rfl
                        rotate_left; · simp only [Act.put, List.setIfInBounds_toArray, List.set_cons_zero, List.set_cons_succ, i64_w, i32_w]; rfl
                        refine pure_ (i := 1) (N := some 122) (v := ?_) (a' := ?_) quoinlaw03_EncAlone.m2 rfl rfl (any_of HT_.out (by kernel_rfl)) (fun _ _ _ h => h) (Or.inl ⟨by rfl, ?_⟩) ?_ ?_; rotate_left; · intro w'; go_simp; with_reducible rfl
                        rotate_left; · simp only [Act.put, List.setIfInBounds_toArray, List.set_cons_zero, List.set_cons_succ, i64_w, i32_w]; rfl
                        refine pure_ (i := 2) (N := some 123) (v := ?_) (a' := ?_) quoinlaw03_EncAlone.m3 rfl rfl (any_of HT_.out (by kernel_rfl)) (fun _ _ _ h => h) (Or.inl ⟨by rfl, ?_⟩) ?_ ?_; rotate_left; · intro w'; go_simp; with_reducible rfl
                        rotate_left; · simp only [Act.put, List.setIfInBounds_toArray, List.set_cons_zero, List.set_cons_succ, i64_w, i32_w]; rfl
                        refine pure_ (i := 3) (N := some 124) (v := ?_) (a' := ?_) quoinlaw03_EncAlone.m4 rfl rfl (any_of HT_.out (by kernel_rfl)) (fun _ _ _ h => h) (Or.inl ⟨by rfl, ?_⟩) ?_ ?_; rotate_left; · intro w'; go_simp; with_reducible rfl
                        rotate_left; · simp only [Act.put, List.setIfInBounds_toArray, List.set_cons_zero, List.set_cons_succ, i64_w, i32_w]; rfl
                        refine pure_ (i := 4) (N := some 125) (v := ?_) (a' := ?_) quoinlaw03_EncAlone.m5 rfl rfl (any_of HT_.out (by kernel_rfl)) (fun _ _ _ h => h) (Or.inl ⟨by rfl, ?_⟩) ?_ ?_; rotate_left; · intro w'; go_simp; with_reducible rfl
                        rotate_left; · simp only [Act.put, List.setIfInBounds_toArray, List.set_cons_zero, List.set_cons_succ, i64_w, i32_w]; rfl
                        refine take_ (i := 5) (N := some 126) (v := ?_) (a' := ?_) quoinlaw03_EncAlone.m6 rfl rfl (take_ofW HT_.out HW_.out (by kernel_rfl)) (fun _ _ _ h => h) (Or.inl ⟨by rfl, ?_⟩) hHeld ?_ ?_
                        rotate_left
                        ·rintro w' ⟨s0, s1, s2, s3, s4⟩
                         go_simp
                         with_reducible rfl
                        rotate_left
                        ·simp only [Act.put, List.setIfInBounds_toArray, List.set_cons_zero, List.set_cons_succ, i64_w, i32_w]
                         rfl
                        refine pure_ (i := 6) (N := some 127) (v := ?_) (a' := ?_) quoinlaw03_EncAlone.m7 rfl rfl (any_of HT_.out (by kernel_rfl)) (fun _ _ _ h => h) (Or.inl ⟨by rfl, ?_⟩) ?_ ?_; rotate_left; · intro w'; go_simp; with_reducible rfl
                        rotate_left; · simp only [Act.put, List.setIfInBounds_toArray, List.set_cons_zero, List.set_cons_succ, i64_w, i32_w]; rfl
                        refine pure_ (i := 7) (N := some 128) (v := ?_) (a' := ?_) quoinlaw03_EncAlone.m8 rfl rfl (any_of HT_.out (by kernel_rfl)) (fun _ _ _ h => h) (Or.inl ⟨by rfl, ?_⟩) ?_ ?_; rotate_left; · intro w'; go_simp; with_reducible rfl
                        rotate_left; · simp only [Act.put, List.setIfInBounds_toArray, List.set_cons_zero, List.set_cons_succ, i64_w, i32_w]; rfl
                        refine pure_ (i := 8) (N := some 129) (v := undef) (a' := ?_) quoinlaw03_EncAlone.m9 rfl rfl (any_of HT_.out (by kernel_rfl)) (fun _ _ _ h => h) (Or.inr ⟨by rfl, rfl⟩) ?_ ?_
                        rotate_left
                        ·simp only [Act.put, List.setIfInBounds_toArray, List.set_cons_zero, List.set_cons_succ, i64_w, i32_w]
                         rfl
                        refine pure_ (i := 9) (N := some 130) (v := undef) (a' := ?_) quoinlaw03_EncAlone.m10 rfl rfl (any_of HT_.out (by kernel_rfl)) (fun _ _ _ h => h) (Or.inr ⟨by rfl, rfl⟩) ?_ ?_
                        rotate_left
                        ·simp only [Act.put, List.setIfInBounds_toArray, List.set_cons_zero, List.set_cons_succ, i64_w, i32_w]
                         rfl
                        refine pure_ (i := 10) (N := some 131) (v := undef) (a' := ?_) quoinlaw03_EncAlone.m11 rfl rfl (any_of HT_.out (by kernel_rfl)) (fun _ _ _ h => h) (Or.inr ⟨by rfl, rfl⟩) ?_ ?_
                        rotate_left
                        ·simp only [Act.put, List.setIfInBounds_toArray, List.set_cons_zero, List.set_cons_succ, i64_w, i32_w]
                         rfl
                        refine pure_ (i := 11) (N := some 132) (v := undef) (a' := ?_) quoinlaw03_EncAlone.m12 rfl rfl (any_of HT_.out (by kernel_rfl)) (fun _ _ _ h => h) (Or.inr ⟨by rfl, rfl⟩) ?_ ?_
                        rotate_left
                        ·simp only [Act.put, List.setIfInBounds_toArray, List.set_cons_zero, List.set_cons_succ, i64_w, i32_w]
                         rfl
                        refine pure_ (i := 12) (N := some 133) (v := undef) (a' := ?_) quoinlaw03_EncAlone.m13 rfl rfl (any_of HT_.out (by kernel_rfl)) (fun _ _ _ h => h) (Or.inr ⟨by rfl, rfl⟩) ?_ ?_
                        rotate_left
                        ·simp only [Act.put, List.setIfInBounds_toArray, List.set_cons_zero, List.set_cons_succ, i64_w, i32_w]
                         rfl
                        refine pure_ (i := 13) (N := some 134) (v := ?_) (a' := ?_) quoinlaw03_EncAlone.m14 rfl rfl (any_of HT_.out (by kernel_rfl)) (fun _ _ _ h => h) (Or.inl ⟨by rfl, ?_⟩) ?_ ?_; rotate_left; · intro w'; go_simp; with_reducible rfl
                        rotate_left; · simp only [Act.put, List.setIfInBounds_toArray, List.set_cons_zero, List.set_cons_succ, i64_w, i32_w]; rfl
                        refine pure_ (i := 14) (N := some 135) (v := ?_) (a' := ?_) quoinlaw03_EncAlone.m15 rfl rfl (any_of HT_.out (by kernel_rfl)) (fun _ _ _ h => h) (Or.inl ⟨by rfl, ?_⟩) ?_ ?_; rotate_left; · intro w'; go_simp; with_reducible rfl
                        rotate_left; · simp only [Act.put, List.setIfInBounds_toArray, List.set_cons_zero, List.set_cons_succ, i64_w, i32_w]; rfl
                        refine pure_ (i := 15) (N := some 136) (v := ?_) (a' := ?_) quoinlaw03_EncAlone.m16 rfl rfl (any_of HT_.out (by kernel_rfl)) (fun _ _ _ h => h) (Or.inl ⟨by rfl, ?_⟩) ?_ ?_; rotate_left; · intro w'; go_simp; with_reducible rfl
                        rotate_left; · simp only [Act.put, List.setIfInBounds_toArray, List.set_cons_zero, List.set_cons_succ, i64_w, i32_w]; rfl
                        refine pure_ (i := 16) (N := some 137) (v := ?_) (a' := ?_) quoinlaw03_EncAlone.m17 rfl rfl (any_of HT_.out (by kernel_rfl)) (fun _ _ _ h => h) (Or.inl ⟨by rfl, ?_⟩) ?_ ?_; rotate_left; · intro w'; go_simp; with_reducible rfl
                        rotate_left; · simp only [Act.put, List.setIfInBounds_toArray, List.set_cons_zero, List.set_cons_succ, i64_w, i32_w]; rfl
                        refine take_ (i := 17) (N := some 138) (v := ?_) (a' := ?_) quoinlaw03_EncAlone.m18 rfl rfl (take_ofW HT_.out HW_.out (by kernel_rfl)) (fun _ _ _ h => h) (Or.inl ⟨by rfl, ?_⟩) hHeld ?_ ?_
                        rotate_left
                        ·rintro w' ⟨s0, s1, s2, s3, s4⟩
                         go_simp
                         with_reducible rfl
                        rotate_left
                        ·simp only [Act.put, List.setIfInBounds_toArray, List.set_cons_zero, List.set_cons_succ, i64_w, i32_w]
                         rfl
                        refine pure_ (i := 18) (N := some 139) (v := ?_) (a' := ?_) quoinlaw03_EncAlone.m19 rfl rfl (any_of HT_.out (by kernel_rfl)) (fun _ _ _ h => h) (Or.inl ⟨by rfl, ?_⟩) ?_ ?_; rotate_left; · intro w'; go_simp; with_reducible rfl
                        rotate_left; · simp only [Act.put, List.setIfInBounds_toArray, List.set_cons_zero, List.set_cons_succ, i64_w, i32_w]; rfl
                        refine pure_ (i := 19) (N := some 140) (v := ?_) (a' := ?_) quoinlaw03_EncAlone.m20 rfl rfl (any_of HT_.out (by kernel_rfl)) (fun _ _ _ h => h) (Or.inl ⟨by rfl, ?_⟩) ?_ ?_; rotate_left; · intro w'; go_simp; with_reducible rfl
                        rotate_left; · simp only [Act.put, List.setIfInBounds_toArray, List.set_cons_zero, List.set_cons_succ, i64_w, i32_w]; rfl
                        refine pure_ (i := 20) (N := some 141) (v := ?_) (a' := ?_) quoinlaw03_EncAlone.m21 rfl rfl (any_of HT_.out (by kernel_rfl)) (fun _ _ _ h => h) (Or.inl ⟨by rfl, ?_⟩) ?_ ?_; rotate_left; · intro w'; go_simp; with_reducible rfl
                        rotate_left; · simp only [Act.put, List.setIfInBounds_toArray, List.set_cons_zero, List.set_cons_succ, i64_w, i32_w]; rfl
                        refine pure_ (i := 22) (N := some 143) (v := ?_) (a' := ?_) quoinlaw03_EncAlone.m42 rfl rfl (any_of HT_.out (by kernel_rfl)) (fun _ _ _ h => h) (Or.inl ⟨by rfl, ?_⟩) ?_ ?_; rotate_left; · intro w'; go_simp; with_reducible rfl
                        rotate_left; · simp only [Act.put, List.setIfInBounds_toArray, List.set_cons_zero, List.set_cons_succ, i64_w, i32_w]; rfl
                        refine take_ (i := 23) (N := some 144) (v := ?_) (a' := ?_) quoinlaw03_EncAlone.m43 rfl rfl (take_ofW HT_.out HW_.out (by kernel_rfl)) (fun _ _ _ h => h) (Or.inl ⟨by rfl, ?_⟩) hHeld ?_ ?_
                        rotate_left
                        ·rintro w' ⟨s0, s1, s2, s3, s4⟩
                         go_simp
                         with_reducible rfl
                        rotate_left
                        ·simp only [Act.put, List.setIfInBounds_toArray, List.set_cons_zero, List.set_cons_succ, i64_w, i32_w]
                         rfl
                        refine one_ (i := 21) (N := some 142) quoinlaw03_EncAlone.m24 rfl rfl (one_of HT_.out (by kernel_rfl)) (by decide) (fun K hK => ?_)
                        refine goes_ Tryd.func53 (by kernel_rfl) rfl #[.int .u32 t789, .int .i64 15] (by rfl) rfl rfl (by (try simp only [List.map_toArray, List.map_cons, List.map_nil]); first | done | rfl | (simp only [List.length_drop, List.length_take]; rfl)) ?_
                        with_reducible refine (quoinlaw03_field.calls t789 15 t809 _ A73.out).mono ?_
                        rintro e w' ⟨rfl, ⟨nd, rfl⟩⟩
                        refine ⟨_, rfl, ?_⟩
                        refine hK.out _ _ ⟨(blk_cell BK786.out 0).trans rfl, (blk_cell BK786.out 1).trans rfl, (blk_cell BK786.out 2).trans rfl, (blk_cell BK786.out 3).trans rfl, (blk_cell BK786.out 4).trans rfl⟩ (fun hHeld => ?_)
                        clear hK K
                        refine norm_ (a' := ?_) ?_ ?_
                        rotate_left
                        ·show Act.put _ (some 142) _ = _
                         simp only [Act.put, List.setIfInBounds_toArray, List.set_cons_zero, List.set_cons_succ, i64_w, i32_w]
                         rfl
                        refine pure_ (i := 24) (N := some 145) (v := ?_) (a' := ?_) quoinlaw03_EncAlone.m25 rfl rfl (any_of HT_.out (by kernel_rfl)) (fun _ _ _ h => h) (Or.inl ⟨by rfl, ?_⟩) ?_ ?_; rotate_left; · intro w'; go_simp; with_reducible rfl
                        rotate_left; · simp only [Act.put, List.setIfInBounds_toArray, List.set_cons_zero, List.set_cons_succ, i64_w, i32_w]; rfl
                        refine pure_ (i := 25) (N := some 146) (v := ?_) (a' := ?_) quoinlaw03_EncAlone.m26 rfl rfl (any_of HT_.out (by kernel_rfl)) (fun _ _ _ h => h) (Or.inl ⟨by rfl, ?_⟩) ?_ ?_; rotate_left; · intro w'; go_simp; with_reducible rfl
                        rotate_left; · simp only [Act.put, List.setIfInBounds_toArray, List.set_cons_zero, List.set_cons_succ, i64_w, i32_w]; rfl
                        refine pure_ (i := 26) (N := some 147) (v := ?_) (a' := ?_) quoinlaw03_EncAlone.m27 rfl rfl (any_of HT_.out (by kernel_rfl)) (fun _ _ _ h => h) (Or.inl ⟨by rfl, ?_⟩) ?_ ?_; rotate_left; · intro w'; go_simp; with_reducible rfl
                        rotate_left; · simp only [Act.put, List.setIfInBounds_toArray, List.set_cons_zero, List.set_cons_succ, i64_w, i32_w]; rfl
                        refine pure_ (i := 27) (N := some 148) (v := ?_) (a' := ?_) quoinlaw03_EncAlone.m28 rfl rfl (any_of HT_.out (by kernel_rfl)) (fun _ _ _ h => h) (Or.inl ⟨by rfl, ?_⟩) ?_ ?_; rotate_left; · intro w'; go_simp; with_reducible rfl
                        rotate_left; · simp only [Act.put, List.setIfInBounds_toArray, List.set_cons_zero, List.set_cons_succ, i64_w, i32_w]; rfl
                        refine pure_ (i := 28) (N := some 149) (v := ?_) (a' := ?_) quoinlaw03_EncAlone.m29 rfl rfl (any_of HT_.out (by kernel_rfl)) (fun _ _ _ h => h) (Or.inl ⟨by rfl, ?_⟩) ?_ ?_; rotate_left; · intro w'; go_simp; with_reducible rfl
                        rotate_left; · simp only [Act.put, List.setIfInBounds_toArray, List.set_cons_zero, List.set_cons_succ, i64_w, i32_w]; rfl
                        refine take_ (i := 29) (N := some 150) (v := ?_) (a' := ?_) quoinlaw03_EncAlone.m30 rfl rfl (take_ofW HT_.out HW_.out (by kernel_rfl)) (fun _ _ _ h => h) (Or.inl ⟨by rfl, ?_⟩) hHeld ?_ ?_
                        rotate_left
                        ·rintro w' ⟨s0, s1, s2, s3, s4⟩
                         go_simp
                         with_reducible rfl
                        rotate_left
                        ·simp only [Act.put, List.setIfInBounds_toArray, List.set_cons_zero, List.set_cons_succ, i64_w, i32_w]
                         rfl
                        refine pure_ (i := 30) (N := some 151) (v := ?_) (a' := ?_) quoinlaw03_EncAlone.m31 rfl rfl (any_of HT_.out (by kernel_rfl)) (fun _ _ _ h => h) (Or.inl ⟨by rfl, ?_⟩) ?_ ?_; rotate_left; · intro w'; go_simp; with_reducible rfl
                        rotate_left; · simp only [Act.put, List.setIfInBounds_toArray, List.set_cons_zero, List.set_cons_succ, i64_w, i32_w]; rfl
                        refine pure_ (i := 31) (N := some 152) (v := ?_) (a' := ?_) quoinlaw03_EncAlone.m32 rfl rfl (any_of HT_.out (by kernel_rfl)) (fun _ _ _ h => h) (Or.inl ⟨by rfl, ?_⟩) ?_ ?_; rotate_left; · intro w'; go_simp; with_reducible rfl
                        rotate_left; · simp only [Act.put, List.setIfInBounds_toArray, List.set_cons_zero, List.set_cons_succ, i64_w, i32_w]; rfl
                        refine pure_ (i := 32) (N := some 153) (v := undef) (a' := ?_) quoinlaw03_EncAlone.m33 rfl rfl (any_of HT_.out (by kernel_rfl)) (fun _ _ _ h => h) (Or.inr ⟨by rfl, rfl⟩) ?_ ?_
                        rotate_left
                        ·simp only [Act.put, List.setIfInBounds_toArray, List.set_cons_zero, List.set_cons_succ, i64_w, i32_w]
                         rfl
                        refine pure_ (i := 33) (N := some 154) (v := undef) (a' := ?_) quoinlaw03_EncAlone.m34 rfl rfl (any_of HT_.out (by kernel_rfl)) (fun _ _ _ h => h) (Or.inr ⟨by rfl, rfl⟩) ?_ ?_
                        rotate_left
                        ·simp only [Act.put, List.setIfInBounds_toArray, List.set_cons_zero, List.set_cons_succ, i64_w, i32_w]
                         rfl
                        refine pure_ (i := 34) (N := some 155) (v := undef) (a' := ?_) quoinlaw03_EncAlone.m35 rfl rfl (any_of HT_.out (by kernel_rfl)) (fun _ _ _ h => h) (Or.inr ⟨by rfl, rfl⟩) ?_ ?_
                        rotate_left
                        ·simp only [Act.put, List.setIfInBounds_toArray, List.set_cons_zero, List.set_cons_succ, i64_w, i32_w]
                         rfl
                        refine pure_ (i := 35) (N := some 156) (v := undef) (a' := ?_) quoinlaw03_EncAlone.m36 rfl rfl (any_of HT_.out (by kernel_rfl)) (fun _ _ _ h => h) (Or.inr ⟨by rfl, rfl⟩) ?_ ?_
                        rotate_left
                        ·simp only [Act.put, List.setIfInBounds_toArray, List.set_cons_zero, List.set_cons_succ, i64_w, i32_w]
                         rfl
                        refine pure_ (i := 36) (N := some 157) (v := undef) (a' := ?_) quoinlaw03_EncAlone.m37 rfl rfl (any_of HT_.out (by kernel_rfl)) (fun _ _ _ h => h) (Or.inr ⟨by rfl, rfl⟩) ?_ ?_
                        rotate_left
                        ·simp only [Act.put, List.setIfInBounds_toArray, List.set_cons_zero, List.set_cons_succ, i64_w, i32_w]
                         rfl
                        refine pure_ (i := 37) (N := some 158) (v := ?_) (a' := ?_) quoinlaw03_EncAlone.m38 rfl rfl (any_of HT_.out (by kernel_rfl)) (fun _ _ _ h => h) (Or.inl ⟨by rfl, ?_⟩) ?_ ?_; rotate_left; · intro w'; go_simp; with_reducible rfl
                        rotate_left; · simp only [Act.put, List.setIfInBounds_toArray, List.set_cons_zero, List.set_cons_succ, i64_w, i32_w]; rfl
                        refine pure_ (i := 38) (N := some 159) (v := ?_) (a' := ?_) quoinlaw03_EncAlone.m39 rfl rfl (any_of HT_.out (by kernel_rfl)) (fun _ _ _ h => h) (Or.inl ⟨by rfl, ?_⟩) ?_ ?_; rotate_left; · intro w'; go_simp; with_reducible rfl
                        rotate_left; · simp only [Act.put, List.setIfInBounds_toArray, List.set_cons_zero, List.set_cons_succ, i64_w, i32_w]; rfl
                        refine done_ (done_of HT_.out (by kernel_rfl)) ?_
                        try go_wp2_with (first | ((with_reducible refine gate_callee (f := 54) rfl ?_); refine goesL_ (some 163) rfl rfl Tryd.func54 (by kernel_rfl) rfl #[.int .u32 t802, .slice Ao37 t798.length co37] rfl (by (try simp only [List.map_toArray, List.map_cons, List.map_nil]); first | done | rfl | (simp only [List.length_drop, List.length_take]; rfl)) ?_; (with_reducible refine (bits_Scatter.calls kj47 t802 _ _ t798 t810 t811 _ ?side1 ?side2 A76.out).mono ?_); (case side1 => repeat (first | exact (Kd.R_reads' HO_14.out).2.2 | (with_reducible refine Kd.C_alloc ?_ _) | (with_reducible refine Kd.C_drewN ?_ _) | (with_reducible refine Kd.C_drew ?_))); (case side2 => exact (Kd.R_reads' HO_14.out).2.1); rintro e w' ⟨rfl, ⟨nd, rfl⟩⟩; refine ⟨_, rfl, ?_⟩; have hnb80 := NB786_787.out; have hnc80 := NB787_786.out; have hcz81_0 : w79.cell? ⟨gb786, 0, none⟩ = some (.int .u8 a0_0) := (blk_cell BK786.out 0).trans rfl; have hcz81_1 : w79.cell? ⟨gb786, 1, none⟩ = some (.int .i64 a0_1) := (blk_cell BK786.out 1).trans rfl; have hcz81_2 : w79.cell? ⟨gb786, 2, none⟩ = some (.int .i64 a0_2) := (blk_cell BK786.out 2).trans rfl; have hcz81_3 : w79.cell? ⟨gb786, 3, none⟩ = some (.int .i64 a0_3) := (blk_cell BK786.out 3).trans rfl; have hcz81_4 : w79.cell? ⟨gb786, 4, none⟩ = some (.int .i64 a0_4) := (blk_cell BK786.out 4).trans rfl; have hfz81_0 := blk_frozen BK786.out 0; have hfz81_1 := blk_frozen BK786.out 1; have hfz81_2 := blk_frozen BK786.out 2; have hfz81_3 := blk_frozen BK786.out 3; have hfz81_4 := blk_frozen BK786.out 4))
                        go_ret
                        exact ⟨by first | rfl | (simp [errW_none, errW_some] <;> rfl) | (simp [*, errW_none, errW_some] <;> rfl), by repeat (first | (with_reducible first | exact HB.out | apply below_alloc | apply pw_below_drewN | apply below_drew1 | refine below_set ?_ GE786.out | refine below_set ?_ GE787.out) | exact HB.out)⟩
                      ·rw [if_neg c78] at H
                       exact absurd H (by simp)
                     ·rw [if_neg c77] at H
                      exact absurd H (by simp)
                    ·rw [if_neg c75] at H
                     have c75b0 : (a0_3 == 0) = false := beq_eq_false_iff_ne.mpr c75
                     have c75b1 : (a0_3 != 0) = true := bne_iff_ne.mpr c75
                     replace H := Option.bind_eq_some_iff.mp H
                     obtain ⟨t812, A820, H⟩ := H
                     have A82 := Aside0.mk A820
                     clear A820
                     by_cases c83 : t812 = a0_3
                     ·rw [if_pos c83] at H
                      have c83b0 : (t812 == a0_3) = true := beq_iff_eq.mpr c83
                      have c83b1 : (t812 != a0_3) = false := bne_eq_false_iff_eq.mpr c83
                      clear c83
                      replace H := Option.bind_eq_some_iff.mp H
                      obtain ⟨⟨t813, t814⟩, A840, H⟩ := H
                      have A84 := Aside0.mk A840
                      clear A840
                      by_cases c85 : t814 = 0
                      ·rw [if_pos c85] at H
                       have c85b0 : (t814 == 0) = true := beq_iff_eq.mpr c85
                       have c85b1 : (t814 != 0) = false := bne_eq_false_iff_eq.mpr c85
                       clear c85
                       by_cases c86 : t789 = (Go.bits .or .u32 (Go.bits .or .u32 (Go.bits .or .u32 (Go.bits .or .u32 t796 t813) ((((a0_1) % 4294967296) * 128) % 4294967296)) ((((a0_2) % 4294967296) * 32768) % 4294967296)) ((((a0_3) % 4294967296) * 1048576) % 4294967296))
                       ·rw [if_pos c86] at H
                        have c86b0 : (t789 == (Go.bits .or .u32 (Go.bits .or .u32 (Go.bits .or .u32 (Go.bits .or .u32 t796 t813) ((((a0_1) % 4294967296) * 128) % 4294967296)) ((((a0_2) % 4294967296) * 32768) % 4294967296)) ((((a0_3) % 4294967296) * 1048576) % 4294967296))) = true := beq_iff_eq.mpr c86
                        have c86b1 : (t789 != (Go.bits .or .u32 (Go.bits .or .u32 (Go.bits .or .u32 (Go.bits .or .u32 t796 t813) ((((a0_1) % 4294967296) * 128) % 4294967296)) ((((a0_2) % 4294967296) * 32768) % 4294967296)) ((((a0_3) % 4294967296) * 1048576) % 4294967296))) = false := bne_eq_false_iff_eq.mpr c86
                        clear c86
                        obtain rfl := Option.some.inj H
                        try go_wp2
                        have n0_ := Aside0.mk (Kd.R_drew HO_14.out)
                        have n1_ := Aside0.mk (blk_drew BK786.out)
                        have n2_ := Aside0.mk (blk_drew BK787.out)
                        have n3_ := Aside0.mk (below_drew1 HB.out)
                        clear HO_14
                        clear BK786
                        clear BK787
                        clear HB
                        have HO_14 := n0_
                        have BK786 := n1_
                        have BK787 := n2_
                        have HB := n3_
                        clear n0_ n1_ n2_ n3_
                        as_aux_lemma =>
                         refine start_ (n := 39) (S := fun w' => w'.cell? ⟨gb786, 0, none⟩ = some (.int .u8 a0_0) ∧ w'.cell? ⟨gb786, 1, none⟩ = some (.int .i64 a0_1) ∧ w'.cell? ⟨gb786, 2, none⟩ = some (.int .i64 a0_2) ∧ w'.cell? ⟨gb786, 3, none⟩ = some (.int .i64 a0_3) ∧ w'.cell? ⟨gb786, 4, none⟩ = some (.int .i64 a0_4)) (ds := []) quoinlaw03_EncAlone.m0 (by kernel_rfl) rfl rfl ⟨(blk_cell BK786.out 0).trans rfl, (blk_cell BK786.out 1).trans rfl, (blk_cell BK786.out 2).trans rfl, (blk_cell BK786.out 3).trans rfl, (blk_cell BK786.out 4).trans rfl⟩ (fun hHeld => ?_); refine with_tabW quoinlaw03_EncAlone.tab20 quoinlaw03_EncAlone.bits20 (fun HT_ HW_ => ?_)
                         generalize wc.drew = w87 at HO_14 BK786 BK787 HB hHeld ⊢
                         refine pure_ (i := 0) (N := some 121) (v := ?_) (a' := ?_) quoinlaw03_EncAlone.m1 rfl rfl (any_of HT_.out (by kernel_rfl)) (fun _ _ _ h => h) (Or.inl ⟨by rfl, ?_⟩) ?_ ?_; rotate_left; · intro w'; go_simp; with_reducible rfl
                         rotate_left; · simp only [Act.put, List.setIfInBounds_toArray, List.set_cons_zero, List.set_cons_succ, i64_w, i32_w]; rfl
                         refine pure_ (i := 1) (N := some 122) (v := ?_) (a' := ?_) quoinlaw03_EncAlone.m2 rfl rfl (any_of HT_.out (by kernel_rfl)) (fun _ _ _ h => h) (Or.inl ⟨by rfl, ?_⟩) ?_ ?_; rotate_left; · intro w'; go_simp; with_reducible rfl
                         rotate_left; · simp only [Act.put, List.setIfInBounds_toArray, List.set_cons_zero, List.set_cons_succ, i64_w, i32_w]; rfl
                         refine pure_ (i := 2) (N := some 123) (v := ?_) (a' := ?_) quoinlaw03_EncAlone.m3 rfl rfl (any_of HT_.out (by kernel_rfl)) (fun _ _ _ h => h) (Or.inl ⟨by rfl, ?_⟩) ?_ ?_; rotate_left; · intro w'; go_simp; with_reducible rfl
                         rotate_left; · simp only [Act.put, List.setIfInBounds_toArray, List.set_cons_zero, List.set_cons_succ, i64_w, i32_w]; rfl
                         refine pure_ (i := 3) (N := some 124) (v := ?_) (a' := ?_) quoinlaw03_EncAlone.m4 rfl rfl (any_of HT_.out (by kernel_rfl)) (fun _ _ _ h => h) (Or.inl ⟨by rfl, ?_⟩) ?_ ?_; rotate_left; · intro w'; go_simp; with_reducible rfl
                         rotate_left; · simp only [Act.put, List.setIfInBounds_toArray, List.set_cons_zero, List.set_cons_succ, i64_w, i32_w]; rfl
                         refine pure_ (i := 4) (N := some 125) (v := ?_) (a' := ?_) quoinlaw03_EncAlone.m5 rfl rfl (any_of HT_.out (by kernel_rfl)) (fun _ _ _ h => h) (Or.inl ⟨by rfl, ?_⟩) ?_ ?_; rotate_left; · intro w'; go_simp; with_reducible rfl
                         rotate_left; · simp only [Act.put, List.setIfInBounds_toArray, List.set_cons_zero, List.set_cons_succ, i64_w, i32_w]; rfl
                         refine take_ (i := 5) (N := some 126) (v := ?_) (a' := ?_) quoinlaw03_EncAlone.m6 rfl rfl (take_ofW HT_.out HW_.out (by kernel_rfl)) (fun _ _ _ h => h) (Or.inl ⟨by rfl, ?_⟩) hHeld ?_ ?_
                         rotate_left
                         ·rintro w' ⟨s0, s1, s2, s3, s4⟩
                          go_simp
                          with_reducible rfl
                         rotate_left
                         ·simp only [Act.put, List.setIfInBounds_toArray, List.set_cons_zero, List.set_cons_succ, i64_w, i32_w]
                          rfl
                         refine pure_ (i := 6) (N := some 127) (v := ?_) (a' := ?_) quoinlaw03_EncAlone.m7 rfl rfl (any_of HT_.out (by kernel_rfl)) (fun _ _ _ h => h) (Or.inl ⟨by rfl, ?_⟩) ?_ ?_; rotate_left; · intro w'; go_simp; with_reducible rfl
                         rotate_left; · simp only [Act.put, List.setIfInBounds_toArray, List.set_cons_zero, List.set_cons_succ, i64_w, i32_w]; rfl
                         refine pure_ (i := 7) (N := some 128) (v := ?_) (a' := ?_) quoinlaw03_EncAlone.m8 rfl rfl (any_of HT_.out (by kernel_rfl)) (fun _ _ _ h => h) (Or.inl ⟨by rfl, ?_⟩) ?_ ?_; rotate_left; · intro w'; go_simp; with_reducible rfl
                         rotate_left; · simp only [Act.put, List.setIfInBounds_toArray, List.set_cons_zero, List.set_cons_succ, i64_w, i32_w]; rfl
                         refine pure_ (i := 8) (N := some 129) (v := undef) (a' := ?_) quoinlaw03_EncAlone.m9 rfl rfl (any_of HT_.out (by kernel_rfl)) (fun _ _ _ h => h) (Or.inr ⟨by rfl, rfl⟩) ?_ ?_
                         rotate_left
                         ·simp only [Act.put, List.setIfInBounds_toArray, List.set_cons_zero, List.set_cons_succ, i64_w, i32_w]
                          rfl
                         refine pure_ (i := 9) (N := some 130) (v := undef) (a' := ?_) quoinlaw03_EncAlone.m10 rfl rfl (any_of HT_.out (by kernel_rfl)) (fun _ _ _ h => h) (Or.inr ⟨by rfl, rfl⟩) ?_ ?_
                         rotate_left
                         ·simp only [Act.put, List.setIfInBounds_toArray, List.set_cons_zero, List.set_cons_succ, i64_w, i32_w]
                          rfl
                         refine pure_ (i := 10) (N := some 131) (v := undef) (a' := ?_) quoinlaw03_EncAlone.m11 rfl rfl (any_of HT_.out (by kernel_rfl)) (fun _ _ _ h => h) (Or.inr ⟨by rfl, rfl⟩) ?_ ?_
                         rotate_left
                         ·simp only [Act.put, List.setIfInBounds_toArray, List.set_cons_zero, List.set_cons_succ, i64_w, i32_w]
                          rfl
                         refine pure_ (i := 11) (N := some 132) (v := undef) (a' := ?_) quoinlaw03_EncAlone.m12 rfl rfl (any_of HT_.out (by kernel_rfl)) (fun _ _ _ h => h) (Or.inr ⟨by rfl, rfl⟩) ?_ ?_
                         rotate_left
                         ·simp only [Act.put, List.setIfInBounds_toArray, List.set_cons_zero, List.set_cons_succ, i64_w, i32_w]
                          rfl
                         refine pure_ (i := 12) (N := some 133) (v := undef) (a' := ?_) quoinlaw03_EncAlone.m13 rfl rfl (any_of HT_.out (by kernel_rfl)) (fun _ _ _ h => h) (Or.inr ⟨by rfl, rfl⟩) ?_ ?_
                         rotate_left
                         ·simp only [Act.put, List.setIfInBounds_toArray, List.set_cons_zero, List.set_cons_succ, i64_w, i32_w]
                          rfl
                         refine pure_ (i := 13) (N := some 134) (v := ?_) (a' := ?_) quoinlaw03_EncAlone.m14 rfl rfl (any_of HT_.out (by kernel_rfl)) (fun _ _ _ h => h) (Or.inl ⟨by rfl, ?_⟩) ?_ ?_; rotate_left; · intro w'; go_simp; with_reducible rfl
                         rotate_left; · simp only [Act.put, List.setIfInBounds_toArray, List.set_cons_zero, List.set_cons_succ, i64_w, i32_w]; rfl
                         refine pure_ (i := 14) (N := some 135) (v := ?_) (a' := ?_) quoinlaw03_EncAlone.m15 rfl rfl (any_of HT_.out (by kernel_rfl)) (fun _ _ _ h => h) (Or.inl ⟨by rfl, ?_⟩) ?_ ?_; rotate_left; · intro w'; go_simp; with_reducible rfl
                         rotate_left; · simp only [Act.put, List.setIfInBounds_toArray, List.set_cons_zero, List.set_cons_succ, i64_w, i32_w]; rfl
                         refine pure_ (i := 15) (N := some 136) (v := ?_) (a' := ?_) quoinlaw03_EncAlone.m16 rfl rfl (any_of HT_.out (by kernel_rfl)) (fun _ _ _ h => h) (Or.inl ⟨by rfl, ?_⟩) ?_ ?_; rotate_left; · intro w'; go_simp; with_reducible rfl
                         rotate_left; · simp only [Act.put, List.setIfInBounds_toArray, List.set_cons_zero, List.set_cons_succ, i64_w, i32_w]; rfl
                         refine pure_ (i := 16) (N := some 137) (v := ?_) (a' := ?_) quoinlaw03_EncAlone.m17 rfl rfl (any_of HT_.out (by kernel_rfl)) (fun _ _ _ h => h) (Or.inl ⟨by rfl, ?_⟩) ?_ ?_; rotate_left; · intro w'; go_simp; with_reducible rfl
                         rotate_left; · simp only [Act.put, List.setIfInBounds_toArray, List.set_cons_zero, List.set_cons_succ, i64_w, i32_w]; rfl
                         refine take_ (i := 17) (N := some 138) (v := ?_) (a' := ?_) quoinlaw03_EncAlone.m18 rfl rfl (take_ofW HT_.out HW_.out (by kernel_rfl)) (fun _ _ _ h => h) (Or.inl ⟨by rfl, ?_⟩) hHeld ?_ ?_
                         rotate_left
                         ·rintro w' ⟨s0, s1, s2, s3, s4⟩
                          go_simp
                          with_reducible rfl
                         rotate_left
                         ·simp only [Act.put, List.setIfInBounds_toArray, List.set_cons_zero, List.set_cons_succ, i64_w, i32_w]
                          rfl
                         refine pure_ (i := 18) (N := some 139) (v := ?_) (a' := ?_) quoinlaw03_EncAlone.m19 rfl rfl (any_of HT_.out (by kernel_rfl)) (fun _ _ _ h => h) (Or.inl ⟨by rfl, ?_⟩) ?_ ?_; rotate_left; · intro w'; go_simp; with_reducible rfl
                         rotate_left; · simp only [Act.put, List.setIfInBounds_toArray, List.set_cons_zero, List.set_cons_succ, i64_w, i32_w]; rfl
                         refine pure_ (i := 19) (N := some 140) (v := ?_) (a' := ?_) quoinlaw03_EncAlone.m20 rfl rfl (any_of HT_.out (by kernel_rfl)) (fun _ _ _ h => h) (Or.inl ⟨by rfl, ?_⟩) ?_ ?_; rotate_left; · intro w'; go_simp; with_reducible rfl
                         rotate_left; · simp only [Act.put, List.setIfInBounds_toArray, List.set_cons_zero, List.set_cons_succ, i64_w, i32_w]; rfl
                         refine pure_ (i := 20) (N := some 141) (v := ?_) (a' := ?_) quoinlaw03_EncAlone.m21 rfl rfl (any_of HT_.out (by kernel_rfl)) (fun _ _ _ h => h) (Or.inl ⟨by rfl, ?_⟩) ?_ ?_; rotate_left; · intro w'; go_simp; with_reducible rfl
                         rotate_left; · simp only [Act.put, List.setIfInBounds_toArray, List.set_cons_zero, List.set_cons_succ, i64_w, i32_w]; rfl
                         refine pure_ (i := 22) (N := some 143) (v := ?_) (a' := ?_) quoinlaw03_EncAlone.m42 rfl rfl (any_of HT_.out (by kernel_rfl)) (fun _ _ _ h => h) (Or.inl ⟨by rfl, ?_⟩) ?_ ?_; rotate_left; · intro w'; go_simp; with_reducible rfl
                         rotate_left; · simp only [Act.put, List.setIfInBounds_toArray, List.set_cons_zero, List.set_cons_succ, i64_w, i32_w]; rfl
                         refine take_ (i := 23) (N := some 144) (v := ?_) (a' := ?_) quoinlaw03_EncAlone.m43 rfl rfl (take_ofW HT_.out HW_.out (by kernel_rfl)) (fun _ _ _ h => h) (Or.inl ⟨by rfl, ?_⟩) hHeld ?_ ?_
                         rotate_left
                         ·rintro w' ⟨s0, s1, s2, s3, s4⟩
                          go_simp
                          with_reducible rfl
                         rotate_left
                         ·simp only [Act.put, List.setIfInBounds_toArray, List.set_cons_zero, List.set_cons_succ, i64_w, i32_w]
                          rfl
                         refine one_ (i := 21) (N := some 142) quoinlaw03_EncAlone.m24 rfl rfl (one_of HT_.out (by kernel_rfl)) (by decide) (fun K hK => ?_)
                         refine goes_ Tryd.func53 (by kernel_rfl) rfl #[.int .u32 t789, .int .i64 15] (by rfl) rfl rfl (by (try simp only [List.map_toArray, List.map_cons, List.map_nil]); first | done | rfl | (simp only [List.length_drop, List.length_take]; rfl)) ?_
                         with_reducible refine (quoinlaw03_field.calls t789 15 t809 _ A73.out).mono ?_
                         rintro e w' ⟨rfl, ⟨nd, rfl⟩⟩
                         refine ⟨_, rfl, ?_⟩
                         refine hK.out _ _ ⟨(blk_cell BK786.out 0).trans rfl, (blk_cell BK786.out 1).trans rfl, (blk_cell BK786.out 2).trans rfl, (blk_cell BK786.out 3).trans rfl, (blk_cell BK786.out 4).trans rfl⟩ (fun hHeld => ?_)
                         clear hK K
                         refine norm_ (a' := ?_) ?_ ?_
                         rotate_left
                         ·show Act.put _ (some 142) _ = _
                          simp only [Act.put, List.setIfInBounds_toArray, List.set_cons_zero, List.set_cons_succ, i64_w, i32_w]
                          rfl
                         refine pure_ (i := 24) (N := some 145) (v := ?_) (a' := ?_) quoinlaw03_EncAlone.m25 rfl rfl (any_of HT_.out (by kernel_rfl)) (fun _ _ _ h => h) (Or.inl ⟨by rfl, ?_⟩) ?_ ?_; rotate_left; · intro w'; go_simp; with_reducible rfl
                         rotate_left; · simp only [Act.put, List.setIfInBounds_toArray, List.set_cons_zero, List.set_cons_succ, i64_w, i32_w]; rfl
                         refine pure_ (i := 25) (N := some 146) (v := ?_) (a' := ?_) quoinlaw03_EncAlone.m26 rfl rfl (any_of HT_.out (by kernel_rfl)) (fun _ _ _ h => h) (Or.inl ⟨by rfl, ?_⟩) ?_ ?_; rotate_left; · intro w'; go_simp; with_reducible rfl
                         rotate_left; · simp only [Act.put, List.setIfInBounds_toArray, List.set_cons_zero, List.set_cons_succ, i64_w, i32_w]; rfl
                         refine pure_ (i := 26) (N := some 147) (v := ?_) (a' := ?_) quoinlaw03_EncAlone.m27 rfl rfl (any_of HT_.out (by kernel_rfl)) (fun _ _ _ h => h) (Or.inl ⟨by rfl, ?_⟩) ?_ ?_; rotate_left; · intro w'; go_simp; with_reducible rfl
                         rotate_left; · simp only [Act.put, List.setIfInBounds_toArray, List.set_cons_zero, List.set_cons_succ, i64_w, i32_w]; rfl
                         refine pure_ (i := 27) (N := some 148) (v := ?_) (a' := ?_) quoinlaw03_EncAlone.m28 rfl rfl (any_of HT_.out (by kernel_rfl)) (fun _ _ _ h => h) (Or.inl ⟨by rfl, ?_⟩) ?_ ?_; rotate_left; · intro w'; go_simp; with_reducible rfl
                         rotate_left; · simp only [Act.put, List.setIfInBounds_toArray, List.set_cons_zero, List.set_cons_succ, i64_w, i32_w]; rfl
                         refine pure_ (i := 28) (N := some 149) (v := ?_) (a' := ?_) quoinlaw03_EncAlone.m29 rfl rfl (any_of HT_.out (by kernel_rfl)) (fun _ _ _ h => h) (Or.inl ⟨by rfl, ?_⟩) ?_ ?_; rotate_left; · intro w'; go_simp; with_reducible rfl
                         rotate_left; · simp only [Act.put, List.setIfInBounds_toArray, List.set_cons_zero, List.set_cons_succ, i64_w, i32_w]; rfl
                         refine take_ (i := 29) (N := some 150) (v := ?_) (a' := ?_) quoinlaw03_EncAlone.m30 rfl rfl (take_ofW HT_.out HW_.out (by kernel_rfl)) (fun _ _ _ h => h) (Or.inl ⟨by rfl, ?_⟩) hHeld ?_ ?_
                         rotate_left
                         ·rintro w' ⟨s0, s1, s2, s3, s4⟩
                          go_simp
                          with_reducible rfl
                         rotate_left
                         ·simp only [Act.put, List.setIfInBounds_toArray, List.set_cons_zero, List.set_cons_succ, i64_w, i32_w]
                          rfl
                         refine pure_ (i := 30) (N := some 151) (v := ?_) (a' := ?_) quoinlaw03_EncAlone.m31 rfl rfl (any_of HT_.out (by kernel_rfl)) (fun _ _ _ h => h) (Or.inl ⟨by rfl, ?_⟩) ?_ ?_; rotate_left; · intro w'; go_simp; with_reducible rfl
                         rotate_left; · simp only [Act.put, List.setIfInBounds_toArray, List.set_cons_zero, List.set_cons_succ, i64_w, i32_w]; rfl
                         refine pure_ (i := 31) (N := some 152) (v := ?_) (a' := ?_) quoinlaw03_EncAlone.m32 rfl rfl (any_of HT_.out (by kernel_rfl)) (fun _ _ _ h => h) (Or.inl ⟨by rfl, ?_⟩) ?_ ?_; rotate_left; · intro w'; go_simp; with_reducible rfl
                         rotate_left; · simp only [Act.put, List.setIfInBounds_toArray, List.set_cons_zero, List.set_cons_succ, i64_w, i32_w]; rfl
                         refine pure_ (i := 32) (N := some 153) (v := ?_) (a' := ?_) quoinlaw03_EncAlone.m33 rfl rfl (any_of HT_.out (by kernel_rfl)) (fun _ _ _ h => h) (Or.inl ⟨by rfl, ?_⟩) ?_ ?_; rotate_left; · intro w'; go_simp; with_reducible rfl
                         rotate_left; · simp only [Act.put, List.setIfInBounds_toArray, List.set_cons_zero, List.set_cons_succ, i64_w, i32_w]; rfl
                         refine pure_ (i := 34) (N := some 155) (v := ?_) (a' := ?_) quoinlaw03_EncAlone.m40 rfl rfl (any_of HT_.out (by kernel_rfl)) (fun _ _ _ h => h) (Or.inl ⟨by rfl, ?_⟩) ?_ ?_; rotate_left; · intro w'; go_simp; with_reducible rfl
                         rotate_left; · simp only [Act.put, List.setIfInBounds_toArray, List.set_cons_zero, List.set_cons_succ, i64_w, i32_w]; rfl
                         refine take_ (i := 35) (N := some 156) (v := ?_) (a' := ?_) quoinlaw03_EncAlone.m41 rfl rfl (take_ofW HT_.out HW_.out (by kernel_rfl)) (fun _ _ _ h => h) (Or.inl ⟨by rfl, ?_⟩) hHeld ?_ ?_
                         rotate_left
                         ·rintro w' ⟨s0, s1, s2, s3, s4⟩
                          go_simp
                          with_reducible rfl
                         rotate_left
                         ·simp only [Act.put, List.setIfInBounds_toArray, List.set_cons_zero, List.set_cons_succ, i64_w, i32_w]
                          rfl
                         refine one_ (i := 33) (N := some 154) quoinlaw03_EncAlone.m36 rfl rfl (one_of HT_.out (by kernel_rfl)) (by decide) (fun K hK => ?_)
                         refine goes_ Tryd.func53 (by kernel_rfl) rfl #[.int .u32 t789, .int .i64 20] (by rfl) rfl rfl (by (try simp only [List.map_toArray, List.map_cons, List.map_nil]); first | done | rfl | (simp only [List.length_drop, List.length_take]; rfl)) ?_
                         with_reducible refine (quoinlaw03_field.calls t789 20 t812 _ A82.out).mono ?_
                         rintro e w' ⟨rfl, ⟨nd, rfl⟩⟩
                         refine ⟨_, rfl, ?_⟩
                         refine hK.out _ _ ⟨(blk_cell BK786.out 0).trans rfl, (blk_cell BK786.out 1).trans rfl, (blk_cell BK786.out 2).trans rfl, (blk_cell BK786.out 3).trans rfl, (blk_cell BK786.out 4).trans rfl⟩ (fun hHeld => ?_)
                         clear hK K
                         refine norm_ (a' := ?_) ?_ ?_
                         rotate_left
                         ·show Act.put _ (some 154) _ = _
                          simp only [Act.put, List.setIfInBounds_toArray, List.set_cons_zero, List.set_cons_succ, i64_w, i32_w]
                          rfl
                         refine pure_ (i := 36) (N := some 157) (v := ?_) (a' := ?_) quoinlaw03_EncAlone.m37 rfl rfl (any_of HT_.out (by kernel_rfl)) (fun _ _ _ h => h) (Or.inl ⟨by rfl, ?_⟩) ?_ ?_; rotate_left; · intro w'; go_simp; with_reducible rfl
                         rotate_left; · simp only [Act.put, List.setIfInBounds_toArray, List.set_cons_zero, List.set_cons_succ, i64_w, i32_w]; rfl
                         refine pure_ (i := 37) (N := some 158) (v := ?_) (a' := ?_) quoinlaw03_EncAlone.m38 rfl rfl (any_of HT_.out (by kernel_rfl)) (fun _ _ _ h => h) (Or.inl ⟨by rfl, ?_⟩) ?_ ?_; rotate_left; · intro w'; go_simp; with_reducible rfl
                         rotate_left; · simp only [Act.put, List.setIfInBounds_toArray, List.set_cons_zero, List.set_cons_succ, i64_w, i32_w]; rfl
                         refine pure_ (i := 38) (N := some 159) (v := ?_) (a' := ?_) quoinlaw03_EncAlone.m39 rfl rfl (any_of HT_.out (by kernel_rfl)) (fun _ _ _ h => h) (Or.inl ⟨by rfl, ?_⟩) ?_ ?_; rotate_left; · intro w'; go_simp; with_reducible rfl
                         rotate_left; · simp only [Act.put, List.setIfInBounds_toArray, List.set_cons_zero, List.set_cons_succ, i64_w, i32_w]; rfl
                         refine done_ (done_of HT_.out (by kernel_rfl)) ?_
                         try go_wp2_with (first | ((with_reducible refine gate_callee (f := 54) rfl ?_); refine goesL_ (some 163) rfl rfl Tryd.func54 (by kernel_rfl) rfl #[.int .u32 t802, .slice Ao37 t798.length co37] rfl (by (try simp only [List.map_toArray, List.map_cons, List.map_nil]); first | done | rfl | (simp only [List.length_drop, List.length_take]; rfl)) ?_; (with_reducible refine (bits_Scatter.calls kj47 t802 _ _ t798 t813 t814 _ ?side1 ?side2 A84.out).mono ?_); (case side1 => repeat (first | exact (Kd.R_reads' HO_14.out).2.2 | (with_reducible refine Kd.C_alloc ?_ _) | (with_reducible refine Kd.C_drewN ?_ _) | (with_reducible refine Kd.C_drew ?_))); (case side2 => exact (Kd.R_reads' HO_14.out).2.1); rintro e w' ⟨rfl, ⟨nd, rfl⟩⟩; refine ⟨_, rfl, ?_⟩; have hnb88 := NB786_787.out; have hnc88 := NB787_786.out; have hcz89_0 : w87.cell? ⟨gb786, 0, none⟩ = some (.int .u8 a0_0) := (blk_cell BK786.out 0).trans rfl; have hcz89_1 : w87.cell? ⟨gb786, 1, none⟩ = some (.int .i64 a0_1) := (blk_cell BK786.out 1).trans rfl; have hcz89_2 : w87.cell? ⟨gb786, 2, none⟩ = some (.int .i64 a0_2) := (blk_cell BK786.out 2).trans rfl; have hcz89_3 : w87.cell? ⟨gb786, 3, none⟩ = some (.int .i64 a0_3) := (blk_cell BK786.out 3).trans rfl; have hcz89_4 : w87.cell? ⟨gb786, 4, none⟩ = some (.int .i64 a0_4) := (blk_cell BK786.out 4).trans rfl; have hfz89_0 := blk_frozen BK786.out 0; have hfz89_1 := blk_frozen BK786.out 1; have hfz89_2 := blk_frozen BK786.out 2; have hfz89_3 := blk_frozen BK786.out 3; have hfz89_4 := blk_frozen BK786.out 4))
                         go_ret
                         exact ⟨by first | rfl | (simp [errW_none, errW_some] <;> rfl) | (simp [*, errW_none, errW_some] <;> rfl), by repeat (first | (with_reducible first | exact HB.out | apply below_alloc | apply pw_below_drewN | apply below_drew1 | refine below_set ?_ GE786.out | refine below_set ?_ GE787.out) | exact HB.out)⟩
                       ·rw [if_neg c86] at H
                        exact absurd H (by simp)
                      ·rw [if_neg c85] at H
                       exact absurd H (by simp)
                     ·rw [if_neg c83] at H
                      exact absurd H (by simp)
                   ·rw [if_neg c74] at H
                    have c74b0 : (t809 == a0_2) = false := beq_eq_false_iff_ne.mpr c74
                    have c74b1 : (t809 != a0_2) = true := bne_iff_ne.mpr c74
                    exact absurd H (by simp)
                 ·rw [if_neg c56] at H
                  have c56b0 : (a0_1 == 0) = false := beq_eq_false_iff_ne.mpr c56
                  have c56b1 : (a0_1 != 0) = true := bne_iff_ne.mpr c56
                  replace H := Option.bind_eq_some_iff.mp H
                  obtain ⟨t815, A900, H⟩ := H
                  have A90 := Aside0.mk A900
                  clear A900
                  by_cases c91 : t815 = a0_1
                  ·rw [if_pos c91] at H
                   have c91b0 : (t815 == a0_1) = true := beq_iff_eq.mpr c91
                   have c91b1 : (t815 != a0_1) = false := bne_eq_false_iff_eq.mpr c91
                   clear c91
                   by_cases c92 : a0_2 = 0
                   ·rw [if_pos c92] at H
                    have c92b0 : (a0_2 == 0) = true := beq_iff_eq.mpr c92
                    have c92b1 : (a0_2 != 0) = false := bne_eq_false_iff_eq.mpr c92
                    clear c92
                    by_cases c93 : a0_3 = 0
                    ·rw [if_pos c93] at H
                     have c93b0 : (a0_3 == 0) = true := beq_iff_eq.mpr c93
                     have c93b1 : (a0_3 != 0) = false := bne_eq_false_iff_eq.mpr c93
                     clear c93
                     replace H := Option.bind_eq_some_iff.mp H
                     obtain ⟨⟨t816, t817⟩, A940, H⟩ := H
                     have A94 := Aside0.mk A940
                     clear A940
                     by_cases c95 : t817 = 0
                     ·rw [if_pos c95] at H
                      have c95b0 : (t817 == 0) = true := beq_iff_eq.mpr c95
                      have c95b1 : (t817 != 0) = false := bne_eq_false_iff_eq.mpr c95
                      clear c95
                      by_cases c96 : t789 = (Go.bits .or .u32 (Go.bits .or .u32 (Go.bits .or .u32 (Go.bits .or .u32 t796 t816) ((((a0_1) % 4294967296) * 128) % 4294967296)) ((((a0_2) % 4294967296) * 32768) % 4294967296)) ((((a0_3) % 4294967296) * 1048576) % 4294967296))
                      ·rw [if_pos c96] at H
                       have c96b0 : (t789 == (Go.bits .or .u32 (Go.bits .or .u32 (Go.bits .or .u32 (Go.bits .or .u32 t796 t816) ((((a0_1) % 4294967296) * 128) % 4294967296)) ((((a0_2) % 4294967296) * 32768) % 4294967296)) ((((a0_3) % 4294967296) * 1048576) % 4294967296))) = true := beq_iff_eq.mpr c96
                       have c96b1 : (t789 != (Go.bits .or .u32 (Go.bits .or .u32 (Go.bits .or .u32 (Go.bits .or .u32 t796 t816) ((((a0_1) % 4294967296) * 128) % 4294967296)) ((((a0_2) % 4294967296) * 32768) % 4294967296)) ((((a0_3) % 4294967296) * 1048576) % 4294967296))) = false := bne_eq_false_iff_eq.mpr c96
                       clear c96
                       obtain rfl := Option.some.inj H
                       try go_wp2
                       have n0_ := Aside0.mk (Kd.R_drew HO_14.out)
                       have n1_ := Aside0.mk (blk_drew BK786.out)
                       have n2_ := Aside0.mk (blk_drew BK787.out)
                       have n3_ := Aside0.mk (below_drew1 HB.out)
                       clear HO_14
                       clear BK786
                       clear BK787
                       clear HB
                       have HO_14 := n0_
                       have BK786 := n1_
                       have BK787 := n2_
                       have HB := n3_
                       clear n0_ n1_ n2_ n3_
                       as_aux_lemma =>
                        refine start_ (n := 39) (S := fun w' => w'.cell? ⟨gb786, 0, none⟩ = some (.int .u8 a0_0) ∧ w'.cell? ⟨gb786, 1, none⟩ = some (.int .i64 a0_1) ∧ w'.cell? ⟨gb786, 2, none⟩ = some (.int .i64 a0_2) ∧ w'.cell? ⟨gb786, 3, none⟩ = some (.int .i64 a0_3) ∧ w'.cell? ⟨gb786, 4, none⟩ = some (.int .i64 a0_4)) (ds := []) quoinlaw03_EncAlone.m0 (by kernel_rfl) rfl rfl ⟨(blk_cell BK786.out 0).trans rfl, (blk_cell BK786.out 1).trans rfl, (blk_cell BK786.out 2).trans rfl, (blk_cell BK786.out 3).trans rfl, (blk_cell BK786.out 4).trans rfl⟩ (fun hHeld => ?_); refine with_tabW quoinlaw03_EncAlone.tab20 quoinlaw03_EncAlone.bits20 (fun HT_ HW_ => ?_)
                        generalize wc.drew = w97 at HO_14 BK786 BK787 HB hHeld ⊢
                        refine pure_ (i := 0) (N := some 121) (v := ?_) (a' := ?_) quoinlaw03_EncAlone.m1 rfl rfl (any_of HT_.out (by kernel_rfl)) (fun _ _ _ h => h) (Or.inl ⟨by rfl, ?_⟩) ?_ ?_; rotate_left; · intro w'; go_simp; with_reducible rfl
                        rotate_left; · simp only [Act.put, List.setIfInBounds_toArray, List.set_cons_zero, List.set_cons_succ, i64_w, i32_w]; rfl
                        refine pure_ (i := 1) (N := some 122) (v := ?_) (a' := ?_) quoinlaw03_EncAlone.m2 rfl rfl (any_of HT_.out (by kernel_rfl)) (fun _ _ _ h => h) (Or.inl ⟨by rfl, ?_⟩) ?_ ?_; rotate_left; · intro w'; go_simp; with_reducible rfl
                        rotate_left; · simp only [Act.put, List.setIfInBounds_toArray, List.set_cons_zero, List.set_cons_succ, i64_w, i32_w]; rfl
                        refine pure_ (i := 2) (N := some 123) (v := ?_) (a' := ?_) quoinlaw03_EncAlone.m3 rfl rfl (any_of HT_.out (by kernel_rfl)) (fun _ _ _ h => h) (Or.inl ⟨by rfl, ?_⟩) ?_ ?_; rotate_left; · intro w'; go_simp; with_reducible rfl
                        rotate_left; · simp only [Act.put, List.setIfInBounds_toArray, List.set_cons_zero, List.set_cons_succ, i64_w, i32_w]; rfl
                        refine pure_ (i := 3) (N := some 124) (v := ?_) (a' := ?_) quoinlaw03_EncAlone.m4 rfl rfl (any_of HT_.out (by kernel_rfl)) (fun _ _ _ h => h) (Or.inl ⟨by rfl, ?_⟩) ?_ ?_; rotate_left; · intro w'; go_simp; with_reducible rfl
                        rotate_left; · simp only [Act.put, List.setIfInBounds_toArray, List.set_cons_zero, List.set_cons_succ, i64_w, i32_w]; rfl
                        refine pure_ (i := 4) (N := some 125) (v := ?_) (a' := ?_) quoinlaw03_EncAlone.m5 rfl rfl (any_of HT_.out (by kernel_rfl)) (fun _ _ _ h => h) (Or.inl ⟨by rfl, ?_⟩) ?_ ?_; rotate_left; · intro w'; go_simp; with_reducible rfl
                        rotate_left; · simp only [Act.put, List.setIfInBounds_toArray, List.set_cons_zero, List.set_cons_succ, i64_w, i32_w]; rfl
                        refine take_ (i := 5) (N := some 126) (v := ?_) (a' := ?_) quoinlaw03_EncAlone.m6 rfl rfl (take_ofW HT_.out HW_.out (by kernel_rfl)) (fun _ _ _ h => h) (Or.inl ⟨by rfl, ?_⟩) hHeld ?_ ?_
                        rotate_left
                        ·rintro w' ⟨s0, s1, s2, s3, s4⟩
                         go_simp
                         with_reducible rfl
                        rotate_left
                        ·simp only [Act.put, List.setIfInBounds_toArray, List.set_cons_zero, List.set_cons_succ, i64_w, i32_w]
                         rfl
                        refine pure_ (i := 6) (N := some 127) (v := ?_) (a' := ?_) quoinlaw03_EncAlone.m7 rfl rfl (any_of HT_.out (by kernel_rfl)) (fun _ _ _ h => h) (Or.inl ⟨by rfl, ?_⟩) ?_ ?_; rotate_left; · intro w'; go_simp; with_reducible rfl
                        rotate_left; · simp only [Act.put, List.setIfInBounds_toArray, List.set_cons_zero, List.set_cons_succ, i64_w, i32_w]; rfl
                        refine pure_ (i := 7) (N := some 128) (v := ?_) (a' := ?_) quoinlaw03_EncAlone.m8 rfl rfl (any_of HT_.out (by kernel_rfl)) (fun _ _ _ h => h) (Or.inl ⟨by rfl, ?_⟩) ?_ ?_; rotate_left; · intro w'; go_simp; with_reducible rfl
                        rotate_left; · simp only [Act.put, List.setIfInBounds_toArray, List.set_cons_zero, List.set_cons_succ, i64_w, i32_w]; rfl
                        refine pure_ (i := 8) (N := some 129) (v := ?_) (a' := ?_) quoinlaw03_EncAlone.m9 rfl rfl (any_of HT_.out (by kernel_rfl)) (fun _ _ _ h => h) (Or.inl ⟨by rfl, ?_⟩) ?_ ?_; rotate_left; · intro w'; go_simp; with_reducible rfl
                        rotate_left; · simp only [Act.put, List.setIfInBounds_toArray, List.set_cons_zero, List.set_cons_succ, i64_w, i32_w]; rfl
                        refine pure_ (i := 10) (N := some 131) (v := ?_) (a' := ?_) quoinlaw03_EncAlone.m44 rfl rfl (any_of HT_.out (by kernel_rfl)) (fun _ _ _ h => h) (Or.inl ⟨by rfl, ?_⟩) ?_ ?_; rotate_left; · intro w'; go_simp; with_reducible rfl
                        rotate_left; · simp only [Act.put, List.setIfInBounds_toArray, List.set_cons_zero, List.set_cons_succ, i64_w, i32_w]; rfl
                        refine take_ (i := 11) (N := some 132) (v := ?_) (a' := ?_) quoinlaw03_EncAlone.m45 rfl rfl (take_ofW HT_.out HW_.out (by kernel_rfl)) (fun _ _ _ h => h) (Or.inl ⟨by rfl, ?_⟩) hHeld ?_ ?_
                        rotate_left
                        ·rintro w' ⟨s0, s1, s2, s3, s4⟩
                         go_simp
                         with_reducible rfl
                        rotate_left
                        ·simp only [Act.put, List.setIfInBounds_toArray, List.set_cons_zero, List.set_cons_succ, i64_w, i32_w]
                         rfl
                        refine one_ (i := 9) (N := some 130) quoinlaw03_EncAlone.m12 rfl rfl (one_of HT_.out (by kernel_rfl)) (by decide) (fun K hK => ?_)
                        refine goes_ Tryd.func53 (by kernel_rfl) rfl #[.int .u32 t789, .int .i64 7] (by rfl) rfl rfl (by (try simp only [List.map_toArray, List.map_cons, List.map_nil]); first | done | rfl | (simp only [List.length_drop, List.length_take]; rfl)) ?_
                        with_reducible refine (quoinlaw03_field.calls t789 7 t815 _ A90.out).mono ?_
                        rintro e w' ⟨rfl, ⟨nd, rfl⟩⟩
                        refine ⟨_, rfl, ?_⟩
                        refine hK.out _ _ ⟨(blk_cell BK786.out 0).trans rfl, (blk_cell BK786.out 1).trans rfl, (blk_cell BK786.out 2).trans rfl, (blk_cell BK786.out 3).trans rfl, (blk_cell BK786.out 4).trans rfl⟩ (fun hHeld => ?_)
                        clear hK K
                        refine norm_ (a' := ?_) ?_ ?_
                        rotate_left
                        ·show Act.put _ (some 130) _ = _
                         simp only [Act.put, List.setIfInBounds_toArray, List.set_cons_zero, List.set_cons_succ, i64_w, i32_w]
                         rfl
                        refine pure_ (i := 12) (N := some 133) (v := ?_) (a' := ?_) quoinlaw03_EncAlone.m13 rfl rfl (any_of HT_.out (by kernel_rfl)) (fun _ _ _ h => h) (Or.inl ⟨by rfl, ?_⟩) ?_ ?_; rotate_left; · intro w'; go_simp; with_reducible rfl
                        rotate_left; · simp only [Act.put, List.setIfInBounds_toArray, List.set_cons_zero, List.set_cons_succ, i64_w, i32_w]; rfl
                        refine pure_ (i := 13) (N := some 134) (v := ?_) (a' := ?_) quoinlaw03_EncAlone.m14 rfl rfl (any_of HT_.out (by kernel_rfl)) (fun _ _ _ h => h) (Or.inl ⟨by rfl, ?_⟩) ?_ ?_; rotate_left; · intro w'; go_simp; with_reducible rfl
                        rotate_left; · simp only [Act.put, List.setIfInBounds_toArray, List.set_cons_zero, List.set_cons_succ, i64_w, i32_w]; rfl
                        refine pure_ (i := 14) (N := some 135) (v := ?_) (a' := ?_) quoinlaw03_EncAlone.m15 rfl rfl (any_of HT_.out (by kernel_rfl)) (fun _ _ _ h => h) (Or.inl ⟨by rfl, ?_⟩) ?_ ?_; rotate_left; · intro w'; go_simp; with_reducible rfl
                        rotate_left; · simp only [Act.put, List.setIfInBounds_toArray, List.set_cons_zero, List.set_cons_succ, i64_w, i32_w]; rfl
                        refine pure_ (i := 15) (N := some 136) (v := ?_) (a' := ?_) quoinlaw03_EncAlone.m16 rfl rfl (any_of HT_.out (by kernel_rfl)) (fun _ _ _ h => h) (Or.inl ⟨by rfl, ?_⟩) ?_ ?_; rotate_left; · intro w'; go_simp; with_reducible rfl
                        rotate_left; · simp only [Act.put, List.setIfInBounds_toArray, List.set_cons_zero, List.set_cons_succ, i64_w, i32_w]; rfl
                        refine pure_ (i := 16) (N := some 137) (v := ?_) (a' := ?_) quoinlaw03_EncAlone.m17 rfl rfl (any_of HT_.out (by kernel_rfl)) (fun _ _ _ h => h) (Or.inl ⟨by rfl, ?_⟩) ?_ ?_; rotate_left; · intro w'; go_simp; with_reducible rfl
                        rotate_left; · simp only [Act.put, List.setIfInBounds_toArray, List.set_cons_zero, List.set_cons_succ, i64_w, i32_w]; rfl
                        refine take_ (i := 17) (N := some 138) (v := ?_) (a' := ?_) quoinlaw03_EncAlone.m18 rfl rfl (take_ofW HT_.out HW_.out (by kernel_rfl)) (fun _ _ _ h => h) (Or.inl ⟨by rfl, ?_⟩) hHeld ?_ ?_
                        rotate_left
                        ·rintro w' ⟨s0, s1, s2, s3, s4⟩
                         go_simp
                         with_reducible rfl
                        rotate_left
                        ·simp only [Act.put, List.setIfInBounds_toArray, List.set_cons_zero, List.set_cons_succ, i64_w, i32_w]
                         rfl
                        refine pure_ (i := 18) (N := some 139) (v := ?_) (a' := ?_) quoinlaw03_EncAlone.m19 rfl rfl (any_of HT_.out (by kernel_rfl)) (fun _ _ _ h => h) (Or.inl ⟨by rfl, ?_⟩) ?_ ?_; rotate_left; · intro w'; go_simp; with_reducible rfl
                        rotate_left; · simp only [Act.put, List.setIfInBounds_toArray, List.set_cons_zero, List.set_cons_succ, i64_w, i32_w]; rfl
                        refine pure_ (i := 19) (N := some 140) (v := ?_) (a' := ?_) quoinlaw03_EncAlone.m20 rfl rfl (any_of HT_.out (by kernel_rfl)) (fun _ _ _ h => h) (Or.inl ⟨by rfl, ?_⟩) ?_ ?_; rotate_left; · intro w'; go_simp; with_reducible rfl
                        rotate_left; · simp only [Act.put, List.setIfInBounds_toArray, List.set_cons_zero, List.set_cons_succ, i64_w, i32_w]; rfl
                        refine pure_ (i := 20) (N := some 141) (v := undef) (a' := ?_) quoinlaw03_EncAlone.m21 rfl rfl (any_of HT_.out (by kernel_rfl)) (fun _ _ _ h => h) (Or.inr ⟨by rfl, rfl⟩) ?_ ?_
                        rotate_left
                        ·simp only [Act.put, List.setIfInBounds_toArray, List.set_cons_zero, List.set_cons_succ, i64_w, i32_w]
                         rfl
                        refine pure_ (i := 21) (N := some 142) (v := undef) (a' := ?_) quoinlaw03_EncAlone.m22 rfl rfl (any_of HT_.out (by kernel_rfl)) (fun _ _ _ h => h) (Or.inr ⟨by rfl, rfl⟩) ?_ ?_
                        rotate_left
                        ·simp only [Act.put, List.setIfInBounds_toArray, List.set_cons_zero, List.set_cons_succ, i64_w, i32_w]
                         rfl
                        refine pure_ (i := 22) (N := some 143) (v := undef) (a' := ?_) quoinlaw03_EncAlone.m23 rfl rfl (any_of HT_.out (by kernel_rfl)) (fun _ _ _ h => h) (Or.inr ⟨by rfl, rfl⟩) ?_ ?_
                        rotate_left
                        ·simp only [Act.put, List.setIfInBounds_toArray, List.set_cons_zero, List.set_cons_succ, i64_w, i32_w]
                         rfl
                        refine pure_ (i := 23) (N := some 144) (v := undef) (a' := ?_) quoinlaw03_EncAlone.m24 rfl rfl (any_of HT_.out (by kernel_rfl)) (fun _ _ _ h => h) (Or.inr ⟨by rfl, rfl⟩) ?_ ?_
                        rotate_left
                        ·simp only [Act.put, List.setIfInBounds_toArray, List.set_cons_zero, List.set_cons_succ, i64_w, i32_w]
                         rfl
                        refine pure_ (i := 24) (N := some 145) (v := undef) (a' := ?_) quoinlaw03_EncAlone.m25 rfl rfl (any_of HT_.out (by kernel_rfl)) (fun _ _ _ h => h) (Or.inr ⟨by rfl, rfl⟩) ?_ ?_
                        rotate_left
                        ·simp only [Act.put, List.setIfInBounds_toArray, List.set_cons_zero, List.set_cons_succ, i64_w, i32_w]
                         rfl
                        refine pure_ (i := 25) (N := some 146) (v := ?_) (a' := ?_) quoinlaw03_EncAlone.m26 rfl rfl (any_of HT_.out (by kernel_rfl)) (fun _ _ _ h => h) (Or.inl ⟨by rfl, ?_⟩) ?_ ?_; rotate_left; · intro w'; go_simp; with_reducible rfl
                        rotate_left; · simp only [Act.put, List.setIfInBounds_toArray, List.set_cons_zero, List.set_cons_succ, i64_w, i32_w]; rfl
                        refine pure_ (i := 26) (N := some 147) (v := ?_) (a' := ?_) quoinlaw03_EncAlone.m27 rfl rfl (any_of HT_.out (by kernel_rfl)) (fun _ _ _ h => h) (Or.inl ⟨by rfl, ?_⟩) ?_ ?_; rotate_left; · intro w'; go_simp; with_reducible rfl
                        rotate_left; · simp only [Act.put, List.setIfInBounds_toArray, List.set_cons_zero, List.set_cons_succ, i64_w, i32_w]; rfl
                        refine pure_ (i := 27) (N := some 148) (v := ?_) (a' := ?_) quoinlaw03_EncAlone.m28 rfl rfl (any_of HT_.out (by kernel_rfl)) (fun _ _ _ h => h) (Or.inl ⟨by rfl, ?_⟩) ?_ ?_; rotate_left; · intro w'; go_simp; with_reducible rfl
                        rotate_left; · simp only [Act.put, List.setIfInBounds_toArray, List.set_cons_zero, List.set_cons_succ, i64_w, i32_w]; rfl
                        refine pure_ (i := 28) (N := some 149) (v := ?_) (a' := ?_) quoinlaw03_EncAlone.m29 rfl rfl (any_of HT_.out (by kernel_rfl)) (fun _ _ _ h => h) (Or.inl ⟨by rfl, ?_⟩) ?_ ?_; rotate_left; · intro w'; go_simp; with_reducible rfl
                        rotate_left; · simp only [Act.put, List.setIfInBounds_toArray, List.set_cons_zero, List.set_cons_succ, i64_w, i32_w]; rfl
                        refine take_ (i := 29) (N := some 150) (v := ?_) (a' := ?_) quoinlaw03_EncAlone.m30 rfl rfl (take_ofW HT_.out HW_.out (by kernel_rfl)) (fun _ _ _ h => h) (Or.inl ⟨by rfl, ?_⟩) hHeld ?_ ?_
                        rotate_left
                        ·rintro w' ⟨s0, s1, s2, s3, s4⟩
                         go_simp
                         with_reducible rfl
                        rotate_left
                        ·simp only [Act.put, List.setIfInBounds_toArray, List.set_cons_zero, List.set_cons_succ, i64_w, i32_w]
                         rfl
                        refine pure_ (i := 30) (N := some 151) (v := ?_) (a' := ?_) quoinlaw03_EncAlone.m31 rfl rfl (any_of HT_.out (by kernel_rfl)) (fun _ _ _ h => h) (Or.inl ⟨by rfl, ?_⟩) ?_ ?_; rotate_left; · intro w'; go_simp; with_reducible rfl
                        rotate_left; · simp only [Act.put, List.setIfInBounds_toArray, List.set_cons_zero, List.set_cons_succ, i64_w, i32_w]; rfl
                        refine pure_ (i := 31) (N := some 152) (v := ?_) (a' := ?_) quoinlaw03_EncAlone.m32 rfl rfl (any_of HT_.out (by kernel_rfl)) (fun _ _ _ h => h) (Or.inl ⟨by rfl, ?_⟩) ?_ ?_; rotate_left; · intro w'; go_simp; with_reducible rfl
                        rotate_left; · simp only [Act.put, List.setIfInBounds_toArray, List.set_cons_zero, List.set_cons_succ, i64_w, i32_w]; rfl
                        refine pure_ (i := 32) (N := some 153) (v := undef) (a' := ?_) quoinlaw03_EncAlone.m33 rfl rfl (any_of HT_.out (by kernel_rfl)) (fun _ _ _ h => h) (Or.inr ⟨by rfl, rfl⟩) ?_ ?_
                        rotate_left
                        ·simp only [Act.put, List.setIfInBounds_toArray, List.set_cons_zero, List.set_cons_succ, i64_w, i32_w]
                         rfl
                        refine pure_ (i := 33) (N := some 154) (v := undef) (a' := ?_) quoinlaw03_EncAlone.m34 rfl rfl (any_of HT_.out (by kernel_rfl)) (fun _ _ _ h => h) (Or.inr ⟨by rfl, rfl⟩) ?_ ?_
                        rotate_left
                        ·simp only [Act.put, List.setIfInBounds_toArray, List.set_cons_zero, List.set_cons_succ, i64_w, i32_w]
                         rfl
                        refine pure_ (i := 34) (N := some 155) (v := undef) (a' := ?_) quoinlaw03_EncAlone.m35 rfl rfl (any_of HT_.out (by kernel_rfl)) (fun _ _ _ h => h) (Or.inr ⟨by rfl, rfl⟩) ?_ ?_
                        rotate_left
                        ·simp only [Act.put, List.setIfInBounds_toArray, List.set_cons_zero, List.set_cons_succ, i64_w, i32_w]
                         rfl
                        refine pure_ (i := 35) (N := some 156) (v := undef) (a' := ?_) quoinlaw03_EncAlone.m36 rfl rfl (any_of HT_.out (by kernel_rfl)) (fun _ _ _ h => h) (Or.inr ⟨by rfl, rfl⟩) ?_ ?_
                        rotate_left
                        ·simp only [Act.put, List.setIfInBounds_toArray, List.set_cons_zero, List.set_cons_succ, i64_w, i32_w]
                         rfl
                        refine pure_ (i := 36) (N := some 157) (v := undef) (a' := ?_) quoinlaw03_EncAlone.m37 rfl rfl (any_of HT_.out (by kernel_rfl)) (fun _ _ _ h => h) (Or.inr ⟨by rfl, rfl⟩) ?_ ?_
                        rotate_left
                        ·simp only [Act.put, List.setIfInBounds_toArray, List.set_cons_zero, List.set_cons_succ, i64_w, i32_w]
                         rfl
                        refine pure_ (i := 37) (N := some 158) (v := ?_) (a' := ?_) quoinlaw03_EncAlone.m38 rfl rfl (any_of HT_.out (by kernel_rfl)) (fun _ _ _ h => h) (Or.inl ⟨by rfl, ?_⟩) ?_ ?_; rotate_left; · intro w'; go_simp; with_reducible rfl
                        rotate_left; · simp only [Act.put, List.setIfInBounds_toArray, List.set_cons_zero, List.set_cons_succ, i64_w, i32_w]; rfl
                        refine pure_ (i := 38) (N := some 159) (v := ?_) (a' := ?_) quoinlaw03_EncAlone.m39 rfl rfl (any_of HT_.out (by kernel_rfl)) (fun _ _ _ h => h) (Or.inl ⟨by rfl, ?_⟩) ?_ ?_; rotate_left; · intro w'; go_simp; with_reducible rfl
                        rotate_left; · simp only [Act.put, List.setIfInBounds_toArray, List.set_cons_zero, List.set_cons_succ, i64_w, i32_w]; rfl
                        refine done_ (done_of HT_.out (by kernel_rfl)) ?_
                        try go_wp2_with (first | ((with_reducible refine gate_callee (f := 54) rfl ?_); refine goesL_ (some 163) rfl rfl Tryd.func54 (by kernel_rfl) rfl #[.int .u32 t802, .slice Ao37 t798.length co37] rfl (by (try simp only [List.map_toArray, List.map_cons, List.map_nil]); first | done | rfl | (simp only [List.length_drop, List.length_take]; rfl)) ?_; (with_reducible refine (bits_Scatter.calls kj47 t802 _ _ t798 t816 t817 _ ?side1 ?side2 A94.out).mono ?_); (case side1 => repeat (first | exact (Kd.R_reads' HO_14.out).2.2 | (with_reducible refine Kd.C_alloc ?_ _) | (with_reducible refine Kd.C_drewN ?_ _) | (with_reducible refine Kd.C_drew ?_))); (case side2 => exact (Kd.R_reads' HO_14.out).2.1); rintro e w' ⟨rfl, ⟨nd, rfl⟩⟩; refine ⟨_, rfl, ?_⟩; have hnb98 := NB786_787.out; have hnc98 := NB787_786.out; have hcz99_0 : w97.cell? ⟨gb786, 0, none⟩ = some (.int .u8 a0_0) := (blk_cell BK786.out 0).trans rfl; have hcz99_1 : w97.cell? ⟨gb786, 1, none⟩ = some (.int .i64 a0_1) := (blk_cell BK786.out 1).trans rfl; have hcz99_2 : w97.cell? ⟨gb786, 2, none⟩ = some (.int .i64 a0_2) := (blk_cell BK786.out 2).trans rfl; have hcz99_3 : w97.cell? ⟨gb786, 3, none⟩ = some (.int .i64 a0_3) := (blk_cell BK786.out 3).trans rfl; have hcz99_4 : w97.cell? ⟨gb786, 4, none⟩ = some (.int .i64 a0_4) := (blk_cell BK786.out 4).trans rfl; have hfz99_0 := blk_frozen BK786.out 0; have hfz99_1 := blk_frozen BK786.out 1; have hfz99_2 := blk_frozen BK786.out 2; have hfz99_3 := blk_frozen BK786.out 3; have hfz99_4 := blk_frozen BK786.out 4))
                        go_ret
                        exact ⟨by first | rfl | (simp [errW_none, errW_some] <;> rfl) | (simp [*, errW_none, errW_some] <;> rfl), by repeat (first | (with_reducible first | exact HB.out | apply below_alloc | apply pw_below_drewN | apply below_drew1 | refine below_set ?_ GE786.out | refine below_set ?_ GE787.out) | exact HB.out)⟩
                      ·rw [if_neg c96] at H
                       exact absurd H (by simp)
                     ·rw [if_neg c95] at H
                      exact absurd H (by simp)
                    ·rw [if_neg c93] at H
                     have c93b0 : (a0_3 == 0) = false := beq_eq_false_iff_ne.mpr c93
                     have c93b1 : (a0_3 != 0) = true := bne_iff_ne.mpr c93
                     replace H := Option.bind_eq_some_iff.mp H
                     obtain ⟨t818, A1000, H⟩ := H
                     have A100 := Aside0.mk A1000
                     clear A1000
                     by_cases c101 : t818 = a0_3
                     ·rw [if_pos c101] at H
                      have c101b0 : (t818 == a0_3) = true := beq_iff_eq.mpr c101
                      have c101b1 : (t818 != a0_3) = false := bne_eq_false_iff_eq.mpr c101
                      clear c101
                      replace H := Option.bind_eq_some_iff.mp H
                      obtain ⟨⟨t819, t820⟩, A1020, H⟩ := H
                      have A102 := Aside0.mk A1020
                      clear A1020
                      by_cases c103 : t820 = 0
                      ·rw [if_pos c103] at H
                       have c103b0 : (t820 == 0) = true := beq_iff_eq.mpr c103
                       have c103b1 : (t820 != 0) = false := bne_eq_false_iff_eq.mpr c103
                       clear c103
                       by_cases c104 : t789 = (Go.bits .or .u32 (Go.bits .or .u32 (Go.bits .or .u32 (Go.bits .or .u32 t796 t819) ((((a0_1) % 4294967296) * 128) % 4294967296)) ((((a0_2) % 4294967296) * 32768) % 4294967296)) ((((a0_3) % 4294967296) * 1048576) % 4294967296))
                       ·rw [if_pos c104] at H
                        have c104b0 : (t789 == (Go.bits .or .u32 (Go.bits .or .u32 (Go.bits .or .u32 (Go.bits .or .u32 t796 t819) ((((a0_1) % 4294967296) * 128) % 4294967296)) ((((a0_2) % 4294967296) * 32768) % 4294967296)) ((((a0_3) % 4294967296) * 1048576) % 4294967296))) = true := beq_iff_eq.mpr c104
                        have c104b1 : (t789 != (Go.bits .or .u32 (Go.bits .or .u32 (Go.bits .or .u32 (Go.bits .or .u32 t796 t819) ((((a0_1) % 4294967296) * 128) % 4294967296)) ((((a0_2) % 4294967296) * 32768) % 4294967296)) ((((a0_3) % 4294967296) * 1048576) % 4294967296))) = false := bne_eq_false_iff_eq.mpr c104
                        clear c104
                        obtain rfl := Option.some.inj H
                        try go_wp2
                        have n0_ := Aside0.mk (Kd.R_drew HO_14.out)
                        have n1_ := Aside0.mk (blk_drew BK786.out)
                        have n2_ := Aside0.mk (blk_drew BK787.out)
                        have n3_ := Aside0.mk (below_drew1 HB.out)
                        clear HO_14
                        clear BK786
                        clear BK787
                        clear HB
                        have HO_14 := n0_
                        have BK786 := n1_
                        have BK787 := n2_
                        have HB := n3_
                        clear n0_ n1_ n2_ n3_
                        as_aux_lemma =>
                         refine start_ (n := 39) (S := fun w' => w'.cell? ⟨gb786, 0, none⟩ = some (.int .u8 a0_0) ∧ w'.cell? ⟨gb786, 1, none⟩ = some (.int .i64 a0_1) ∧ w'.cell? ⟨gb786, 2, none⟩ = some (.int .i64 a0_2) ∧ w'.cell? ⟨gb786, 3, none⟩ = some (.int .i64 a0_3) ∧ w'.cell? ⟨gb786, 4, none⟩ = some (.int .i64 a0_4)) (ds := []) quoinlaw03_EncAlone.m0 (by kernel_rfl) rfl rfl ⟨(blk_cell BK786.out 0).trans rfl, (blk_cell BK786.out 1).trans rfl, (blk_cell BK786.out 2).trans rfl, (blk_cell BK786.out 3).trans rfl, (blk_cell BK786.out 4).trans rfl⟩ (fun hHeld => ?_); refine with_tabW quoinlaw03_EncAlone.tab20 quoinlaw03_EncAlone.bits20 (fun HT_ HW_ => ?_)
                         generalize wc.drew = w105 at HO_14 BK786 BK787 HB hHeld ⊢
                         refine pure_ (i := 0) (N := some 121) (v := ?_) (a' := ?_) quoinlaw03_EncAlone.m1 rfl rfl (any_of HT_.out (by kernel_rfl)) (fun _ _ _ h => h) (Or.inl ⟨by rfl, ?_⟩) ?_ ?_; rotate_left; · intro w'; go_simp; with_reducible rfl
                         rotate_left; · simp only [Act.put, List.setIfInBounds_toArray, List.set_cons_zero, List.set_cons_succ, i64_w, i32_w]; rfl
                         refine pure_ (i := 1) (N := some 122) (v := ?_) (a' := ?_) quoinlaw03_EncAlone.m2 rfl rfl (any_of HT_.out (by kernel_rfl)) (fun _ _ _ h => h) (Or.inl ⟨by rfl, ?_⟩) ?_ ?_; rotate_left; · intro w'; go_simp; with_reducible rfl
                         rotate_left; · simp only [Act.put, List.setIfInBounds_toArray, List.set_cons_zero, List.set_cons_succ, i64_w, i32_w]; rfl
                         refine pure_ (i := 2) (N := some 123) (v := ?_) (a' := ?_) quoinlaw03_EncAlone.m3 rfl rfl (any_of HT_.out (by kernel_rfl)) (fun _ _ _ h => h) (Or.inl ⟨by rfl, ?_⟩) ?_ ?_; rotate_left; · intro w'; go_simp; with_reducible rfl
                         rotate_left; · simp only [Act.put, List.setIfInBounds_toArray, List.set_cons_zero, List.set_cons_succ, i64_w, i32_w]; rfl
                         refine pure_ (i := 3) (N := some 124) (v := ?_) (a' := ?_) quoinlaw03_EncAlone.m4 rfl rfl (any_of HT_.out (by kernel_rfl)) (fun _ _ _ h => h) (Or.inl ⟨by rfl, ?_⟩) ?_ ?_; rotate_left; · intro w'; go_simp; with_reducible rfl
                         rotate_left; · simp only [Act.put, List.setIfInBounds_toArray, List.set_cons_zero, List.set_cons_succ, i64_w, i32_w]; rfl
                         refine pure_ (i := 4) (N := some 125) (v := ?_) (a' := ?_) quoinlaw03_EncAlone.m5 rfl rfl (any_of HT_.out (by kernel_rfl)) (fun _ _ _ h => h) (Or.inl ⟨by rfl, ?_⟩) ?_ ?_; rotate_left; · intro w'; go_simp; with_reducible rfl
                         rotate_left; · simp only [Act.put, List.setIfInBounds_toArray, List.set_cons_zero, List.set_cons_succ, i64_w, i32_w]; rfl
                         refine take_ (i := 5) (N := some 126) (v := ?_) (a' := ?_) quoinlaw03_EncAlone.m6 rfl rfl (take_ofW HT_.out HW_.out (by kernel_rfl)) (fun _ _ _ h => h) (Or.inl ⟨by rfl, ?_⟩) hHeld ?_ ?_
                         rotate_left
                         ·rintro w' ⟨s0, s1, s2, s3, s4⟩
                          go_simp
                          with_reducible rfl
                         rotate_left
                         ·simp only [Act.put, List.setIfInBounds_toArray, List.set_cons_zero, List.set_cons_succ, i64_w, i32_w]
                          rfl
                         refine pure_ (i := 6) (N := some 127) (v := ?_) (a' := ?_) quoinlaw03_EncAlone.m7 rfl rfl (any_of HT_.out (by kernel_rfl)) (fun _ _ _ h => h) (Or.inl ⟨by rfl, ?_⟩) ?_ ?_; rotate_left; · intro w'; go_simp; with_reducible rfl
                         rotate_left; · simp only [Act.put, List.setIfInBounds_toArray, List.set_cons_zero, List.set_cons_succ, i64_w, i32_w]; rfl
                         refine pure_ (i := 7) (N := some 128) (v := ?_) (a' := ?_) quoinlaw03_EncAlone.m8 rfl rfl (any_of HT_.out (by kernel_rfl)) (fun _ _ _ h => h) (Or.inl ⟨by rfl, ?_⟩) ?_ ?_; rotate_left; · intro w'; go_simp; with_reducible rfl
                         rotate_left; · simp only [Act.put, List.setIfInBounds_toArray, List.set_cons_zero, List.set_cons_succ, i64_w, i32_w]; rfl
                         refine pure_ (i := 8) (N := some 129) (v := ?_) (a' := ?_) quoinlaw03_EncAlone.m9 rfl rfl (any_of HT_.out (by kernel_rfl)) (fun _ _ _ h => h) (Or.inl ⟨by rfl, ?_⟩) ?_ ?_; rotate_left; · intro w'; go_simp; with_reducible rfl
                         rotate_left; · simp only [Act.put, List.setIfInBounds_toArray, List.set_cons_zero, List.set_cons_succ, i64_w, i32_w]; rfl
                         refine pure_ (i := 10) (N := some 131) (v := ?_) (a' := ?_) quoinlaw03_EncAlone.m44 rfl rfl (any_of HT_.out (by kernel_rfl)) (fun _ _ _ h => h) (Or.inl ⟨by rfl, ?_⟩) ?_ ?_; rotate_left; · intro w'; go_simp; with_reducible rfl
                         rotate_left; · simp only [Act.put, List.setIfInBounds_toArray, List.set_cons_zero, List.set_cons_succ, i64_w, i32_w]; rfl
                         refine take_ (i := 11) (N := some 132) (v := ?_) (a' := ?_) quoinlaw03_EncAlone.m45 rfl rfl (take_ofW HT_.out HW_.out (by kernel_rfl)) (fun _ _ _ h => h) (Or.inl ⟨by rfl, ?_⟩) hHeld ?_ ?_
                         rotate_left
                         ·rintro w' ⟨s0, s1, s2, s3, s4⟩
                          go_simp
                          with_reducible rfl
                         rotate_left
                         ·simp only [Act.put, List.setIfInBounds_toArray, List.set_cons_zero, List.set_cons_succ, i64_w, i32_w]
                          rfl
                         refine one_ (i := 9) (N := some 130) quoinlaw03_EncAlone.m12 rfl rfl (one_of HT_.out (by kernel_rfl)) (by decide) (fun K hK => ?_)
                         refine goes_ Tryd.func53 (by kernel_rfl) rfl #[.int .u32 t789, .int .i64 7] (by rfl) rfl rfl (by (try simp only [List.map_toArray, List.map_cons, List.map_nil]); first | done | rfl | (simp only [List.length_drop, List.length_take]; rfl)) ?_
                         with_reducible refine (quoinlaw03_field.calls t789 7 t815 _ A90.out).mono ?_
                         rintro e w' ⟨rfl, ⟨nd, rfl⟩⟩
                         refine ⟨_, rfl, ?_⟩
                         refine hK.out _ _ ⟨(blk_cell BK786.out 0).trans rfl, (blk_cell BK786.out 1).trans rfl, (blk_cell BK786.out 2).trans rfl, (blk_cell BK786.out 3).trans rfl, (blk_cell BK786.out 4).trans rfl⟩ (fun hHeld => ?_)
                         clear hK K
                         refine norm_ (a' := ?_) ?_ ?_
                         rotate_left
                         ·show Act.put _ (some 130) _ = _
                          simp only [Act.put, List.setIfInBounds_toArray, List.set_cons_zero, List.set_cons_succ, i64_w, i32_w]
                          rfl
                         refine pure_ (i := 12) (N := some 133) (v := ?_) (a' := ?_) quoinlaw03_EncAlone.m13 rfl rfl (any_of HT_.out (by kernel_rfl)) (fun _ _ _ h => h) (Or.inl ⟨by rfl, ?_⟩) ?_ ?_; rotate_left; · intro w'; go_simp; with_reducible rfl
                         rotate_left; · simp only [Act.put, List.setIfInBounds_toArray, List.set_cons_zero, List.set_cons_succ, i64_w, i32_w]; rfl
                         refine pure_ (i := 13) (N := some 134) (v := ?_) (a' := ?_) quoinlaw03_EncAlone.m14 rfl rfl (any_of HT_.out (by kernel_rfl)) (fun _ _ _ h => h) (Or.inl ⟨by rfl, ?_⟩) ?_ ?_; rotate_left; · intro w'; go_simp; with_reducible rfl
                         rotate_left; · simp only [Act.put, List.setIfInBounds_toArray, List.set_cons_zero, List.set_cons_succ, i64_w, i32_w]; rfl
                         refine pure_ (i := 14) (N := some 135) (v := ?_) (a' := ?_) quoinlaw03_EncAlone.m15 rfl rfl (any_of HT_.out (by kernel_rfl)) (fun _ _ _ h => h) (Or.inl ⟨by rfl, ?_⟩) ?_ ?_; rotate_left; · intro w'; go_simp; with_reducible rfl
                         rotate_left; · simp only [Act.put, List.setIfInBounds_toArray, List.set_cons_zero, List.set_cons_succ, i64_w, i32_w]; rfl
                         refine pure_ (i := 15) (N := some 136) (v := ?_) (a' := ?_) quoinlaw03_EncAlone.m16 rfl rfl (any_of HT_.out (by kernel_rfl)) (fun _ _ _ h => h) (Or.inl ⟨by rfl, ?_⟩) ?_ ?_; rotate_left; · intro w'; go_simp; with_reducible rfl
                         rotate_left; · simp only [Act.put, List.setIfInBounds_toArray, List.set_cons_zero, List.set_cons_succ, i64_w, i32_w]; rfl
                         refine pure_ (i := 16) (N := some 137) (v := ?_) (a' := ?_) quoinlaw03_EncAlone.m17 rfl rfl (any_of HT_.out (by kernel_rfl)) (fun _ _ _ h => h) (Or.inl ⟨by rfl, ?_⟩) ?_ ?_; rotate_left; · intro w'; go_simp; with_reducible rfl
                         rotate_left; · simp only [Act.put, List.setIfInBounds_toArray, List.set_cons_zero, List.set_cons_succ, i64_w, i32_w]; rfl
                         refine take_ (i := 17) (N := some 138) (v := ?_) (a' := ?_) quoinlaw03_EncAlone.m18 rfl rfl (take_ofW HT_.out HW_.out (by kernel_rfl)) (fun _ _ _ h => h) (Or.inl ⟨by rfl, ?_⟩) hHeld ?_ ?_
                         rotate_left
                         ·rintro w' ⟨s0, s1, s2, s3, s4⟩
                          go_simp
                          with_reducible rfl
                         rotate_left
                         ·simp only [Act.put, List.setIfInBounds_toArray, List.set_cons_zero, List.set_cons_succ, i64_w, i32_w]
                          rfl
                         refine pure_ (i := 18) (N := some 139) (v := ?_) (a' := ?_) quoinlaw03_EncAlone.m19 rfl rfl (any_of HT_.out (by kernel_rfl)) (fun _ _ _ h => h) (Or.inl ⟨by rfl, ?_⟩) ?_ ?_; rotate_left; · intro w'; go_simp; with_reducible rfl
                         rotate_left; · simp only [Act.put, List.setIfInBounds_toArray, List.set_cons_zero, List.set_cons_succ, i64_w, i32_w]; rfl
                         refine pure_ (i := 19) (N := some 140) (v := ?_) (a' := ?_) quoinlaw03_EncAlone.m20 rfl rfl (any_of HT_.out (by kernel_rfl)) (fun _ _ _ h => h) (Or.inl ⟨by rfl, ?_⟩) ?_ ?_; rotate_left; · intro w'; go_simp; with_reducible rfl
                         rotate_left; · simp only [Act.put, List.setIfInBounds_toArray, List.set_cons_zero, List.set_cons_succ, i64_w, i32_w]; rfl
                         refine pure_ (i := 20) (N := some 141) (v := undef) (a' := ?_) quoinlaw03_EncAlone.m21 rfl rfl (any_of HT_.out (by kernel_rfl)) (fun _ _ _ h => h) (Or.inr ⟨by rfl, rfl⟩) ?_ ?_
                         rotate_left
                         ·simp only [Act.put, List.setIfInBounds_toArray, List.set_cons_zero, List.set_cons_succ, i64_w, i32_w]
                          rfl
                         refine pure_ (i := 21) (N := some 142) (v := undef) (a' := ?_) quoinlaw03_EncAlone.m22 rfl rfl (any_of HT_.out (by kernel_rfl)) (fun _ _ _ h => h) (Or.inr ⟨by rfl, rfl⟩) ?_ ?_
                         rotate_left
                         ·simp only [Act.put, List.setIfInBounds_toArray, List.set_cons_zero, List.set_cons_succ, i64_w, i32_w]
                          rfl
                         refine pure_ (i := 22) (N := some 143) (v := undef) (a' := ?_) quoinlaw03_EncAlone.m23 rfl rfl (any_of HT_.out (by kernel_rfl)) (fun _ _ _ h => h) (Or.inr ⟨by rfl, rfl⟩) ?_ ?_
                         rotate_left
                         ·simp only [Act.put, List.setIfInBounds_toArray, List.set_cons_zero, List.set_cons_succ, i64_w, i32_w]
                          rfl
                         refine pure_ (i := 23) (N := some 144) (v := undef) (a' := ?_) quoinlaw03_EncAlone.m24 rfl rfl (any_of HT_.out (by kernel_rfl)) (fun _ _ _ h => h) (Or.inr ⟨by rfl, rfl⟩) ?_ ?_
                         rotate_left
                         ·simp only [Act.put, List.setIfInBounds_toArray, List.set_cons_zero, List.set_cons_succ, i64_w, i32_w]
                          rfl
                         refine pure_ (i := 24) (N := some 145) (v := undef) (a' := ?_) quoinlaw03_EncAlone.m25 rfl rfl (any_of HT_.out (by kernel_rfl)) (fun _ _ _ h => h) (Or.inr ⟨by rfl, rfl⟩) ?_ ?_
                         rotate_left
                         ·simp only [Act.put, List.setIfInBounds_toArray, List.set_cons_zero, List.set_cons_succ, i64_w, i32_w]
                          rfl
                         refine pure_ (i := 25) (N := some 146) (v := ?_) (a' := ?_) quoinlaw03_EncAlone.m26 rfl rfl (any_of HT_.out (by kernel_rfl)) (fun _ _ _ h => h) (Or.inl ⟨by rfl, ?_⟩) ?_ ?_; rotate_left; · intro w'; go_simp; with_reducible rfl
                         rotate_left; · simp only [Act.put, List.setIfInBounds_toArray, List.set_cons_zero, List.set_cons_succ, i64_w, i32_w]; rfl
                         refine pure_ (i := 26) (N := some 147) (v := ?_) (a' := ?_) quoinlaw03_EncAlone.m27 rfl rfl (any_of HT_.out (by kernel_rfl)) (fun _ _ _ h => h) (Or.inl ⟨by rfl, ?_⟩) ?_ ?_; rotate_left; · intro w'; go_simp; with_reducible rfl
                         rotate_left; · simp only [Act.put, List.setIfInBounds_toArray, List.set_cons_zero, List.set_cons_succ, i64_w, i32_w]; rfl
                         refine pure_ (i := 27) (N := some 148) (v := ?_) (a' := ?_) quoinlaw03_EncAlone.m28 rfl rfl (any_of HT_.out (by kernel_rfl)) (fun _ _ _ h => h) (Or.inl ⟨by rfl, ?_⟩) ?_ ?_; rotate_left; · intro w'; go_simp; with_reducible rfl
                         rotate_left; · simp only [Act.put, List.setIfInBounds_toArray, List.set_cons_zero, List.set_cons_succ, i64_w, i32_w]; rfl
                         refine pure_ (i := 28) (N := some 149) (v := ?_) (a' := ?_) quoinlaw03_EncAlone.m29 rfl rfl (any_of HT_.out (by kernel_rfl)) (fun _ _ _ h => h) (Or.inl ⟨by rfl, ?_⟩) ?_ ?_; rotate_left; · intro w'; go_simp; with_reducible rfl
                         rotate_left; · simp only [Act.put, List.setIfInBounds_toArray, List.set_cons_zero, List.set_cons_succ, i64_w, i32_w]; rfl
                         refine take_ (i := 29) (N := some 150) (v := ?_) (a' := ?_) quoinlaw03_EncAlone.m30 rfl rfl (take_ofW HT_.out HW_.out (by kernel_rfl)) (fun _ _ _ h => h) (Or.inl ⟨by rfl, ?_⟩) hHeld ?_ ?_
                         rotate_left
                         ·rintro w' ⟨s0, s1, s2, s3, s4⟩
                          go_simp
                          with_reducible rfl
                         rotate_left
                         ·simp only [Act.put, List.setIfInBounds_toArray, List.set_cons_zero, List.set_cons_succ, i64_w, i32_w]
                          rfl
                         refine pure_ (i := 30) (N := some 151) (v := ?_) (a' := ?_) quoinlaw03_EncAlone.m31 rfl rfl (any_of HT_.out (by kernel_rfl)) (fun _ _ _ h => h) (Or.inl ⟨by rfl, ?_⟩) ?_ ?_; rotate_left; · intro w'; go_simp; with_reducible rfl
                         rotate_left; · simp only [Act.put, List.setIfInBounds_toArray, List.set_cons_zero, List.set_cons_succ, i64_w, i32_w]; rfl
                         refine pure_ (i := 31) (N := some 152) (v := ?_) (a' := ?_) quoinlaw03_EncAlone.m32 rfl rfl (any_of HT_.out (by kernel_rfl)) (fun _ _ _ h => h) (Or.inl ⟨by rfl, ?_⟩) ?_ ?_; rotate_left; · intro w'; go_simp; with_reducible rfl
                         rotate_left; · simp only [Act.put, List.setIfInBounds_toArray, List.set_cons_zero, List.set_cons_succ, i64_w, i32_w]; rfl
                         refine pure_ (i := 32) (N := some 153) (v := ?_) (a' := ?_) quoinlaw03_EncAlone.m33 rfl rfl (any_of HT_.out (by kernel_rfl)) (fun _ _ _ h => h) (Or.inl ⟨by rfl, ?_⟩) ?_ ?_; rotate_left; · intro w'; go_simp; with_reducible rfl
                         rotate_left; · simp only [Act.put, List.setIfInBounds_toArray, List.set_cons_zero, List.set_cons_succ, i64_w, i32_w]; rfl
                         refine pure_ (i := 34) (N := some 155) (v := ?_) (a' := ?_) quoinlaw03_EncAlone.m40 rfl rfl (any_of HT_.out (by kernel_rfl)) (fun _ _ _ h => h) (Or.inl ⟨by rfl, ?_⟩) ?_ ?_; rotate_left; · intro w'; go_simp; with_reducible rfl
                         rotate_left; · simp only [Act.put, List.setIfInBounds_toArray, List.set_cons_zero, List.set_cons_succ, i64_w, i32_w]; rfl
                         refine take_ (i := 35) (N := some 156) (v := ?_) (a' := ?_) quoinlaw03_EncAlone.m41 rfl rfl (take_ofW HT_.out HW_.out (by kernel_rfl)) (fun _ _ _ h => h) (Or.inl ⟨by rfl, ?_⟩) hHeld ?_ ?_
                         rotate_left
                         ·rintro w' ⟨s0, s1, s2, s3, s4⟩
                          go_simp
                          with_reducible rfl
                         rotate_left
                         ·simp only [Act.put, List.setIfInBounds_toArray, List.set_cons_zero, List.set_cons_succ, i64_w, i32_w]
                          rfl
                         refine one_ (i := 33) (N := some 154) quoinlaw03_EncAlone.m36 rfl rfl (one_of HT_.out (by kernel_rfl)) (by decide) (fun K hK => ?_)
                         refine goes_ Tryd.func53 (by kernel_rfl) rfl #[.int .u32 t789, .int .i64 20] (by rfl) rfl rfl (by (try simp only [List.map_toArray, List.map_cons, List.map_nil]); first | done | rfl | (simp only [List.length_drop, List.length_take]; rfl)) ?_
                         with_reducible refine (quoinlaw03_field.calls t789 20 t818 _ A100.out).mono ?_
                         rintro e w' ⟨rfl, ⟨nd, rfl⟩⟩
                         refine ⟨_, rfl, ?_⟩
                         refine hK.out _ _ ⟨(blk_cell BK786.out 0).trans rfl, (blk_cell BK786.out 1).trans rfl, (blk_cell BK786.out 2).trans rfl, (blk_cell BK786.out 3).trans rfl, (blk_cell BK786.out 4).trans rfl⟩ (fun hHeld => ?_)
                         clear hK K
                         refine norm_ (a' := ?_) ?_ ?_
                         rotate_left
                         ·show Act.put _ (some 154) _ = _
                          simp only [Act.put, List.setIfInBounds_toArray, List.set_cons_zero, List.set_cons_succ, i64_w, i32_w]
                          rfl
                         refine pure_ (i := 36) (N := some 157) (v := ?_) (a' := ?_) quoinlaw03_EncAlone.m37 rfl rfl (any_of HT_.out (by kernel_rfl)) (fun _ _ _ h => h) (Or.inl ⟨by rfl, ?_⟩) ?_ ?_; rotate_left; · intro w'; go_simp; with_reducible rfl
                         rotate_left; · simp only [Act.put, List.setIfInBounds_toArray, List.set_cons_zero, List.set_cons_succ, i64_w, i32_w]; rfl
                         refine pure_ (i := 37) (N := some 158) (v := ?_) (a' := ?_) quoinlaw03_EncAlone.m38 rfl rfl (any_of HT_.out (by kernel_rfl)) (fun _ _ _ h => h) (Or.inl ⟨by rfl, ?_⟩) ?_ ?_; rotate_left; · intro w'; go_simp; with_reducible rfl
                         rotate_left; · simp only [Act.put, List.setIfInBounds_toArray, List.set_cons_zero, List.set_cons_succ, i64_w, i32_w]; rfl
                         refine pure_ (i := 38) (N := some 159) (v := ?_) (a' := ?_) quoinlaw03_EncAlone.m39 rfl rfl (any_of HT_.out (by kernel_rfl)) (fun _ _ _ h => h) (Or.inl ⟨by rfl, ?_⟩) ?_ ?_; rotate_left; · intro w'; go_simp; with_reducible rfl
                         rotate_left; · simp only [Act.put, List.setIfInBounds_toArray, List.set_cons_zero, List.set_cons_succ, i64_w, i32_w]; rfl
                         refine done_ (done_of HT_.out (by kernel_rfl)) ?_
                         try go_wp2_with (first | ((with_reducible refine gate_callee (f := 54) rfl ?_); refine goesL_ (some 163) rfl rfl Tryd.func54 (by kernel_rfl) rfl #[.int .u32 t802, .slice Ao37 t798.length co37] rfl (by (try simp only [List.map_toArray, List.map_cons, List.map_nil]); first | done | rfl | (simp only [List.length_drop, List.length_take]; rfl)) ?_; (with_reducible refine (bits_Scatter.calls kj47 t802 _ _ t798 t819 t820 _ ?side1 ?side2 A102.out).mono ?_); (case side1 => repeat (first | exact (Kd.R_reads' HO_14.out).2.2 | (with_reducible refine Kd.C_alloc ?_ _) | (with_reducible refine Kd.C_drewN ?_ _) | (with_reducible refine Kd.C_drew ?_))); (case side2 => exact (Kd.R_reads' HO_14.out).2.1); rintro e w' ⟨rfl, ⟨nd, rfl⟩⟩; refine ⟨_, rfl, ?_⟩; have hnb106 := NB786_787.out; have hnc106 := NB787_786.out; have hcz107_0 : w105.cell? ⟨gb786, 0, none⟩ = some (.int .u8 a0_0) := (blk_cell BK786.out 0).trans rfl; have hcz107_1 : w105.cell? ⟨gb786, 1, none⟩ = some (.int .i64 a0_1) := (blk_cell BK786.out 1).trans rfl; have hcz107_2 : w105.cell? ⟨gb786, 2, none⟩ = some (.int .i64 a0_2) := (blk_cell BK786.out 2).trans rfl; have hcz107_3 : w105.cell? ⟨gb786, 3, none⟩ = some (.int .i64 a0_3) := (blk_cell BK786.out 3).trans rfl; have hcz107_4 : w105.cell? ⟨gb786, 4, none⟩ = some (.int .i64 a0_4) := (blk_cell BK786.out 4).trans rfl; have hfz107_0 := blk_frozen BK786.out 0; have hfz107_1 := blk_frozen BK786.out 1; have hfz107_2 := blk_frozen BK786.out 2; have hfz107_3 := blk_frozen BK786.out 3; have hfz107_4 := blk_frozen BK786.out 4))
                         go_ret
                         exact ⟨by first | rfl | (simp [errW_none, errW_some] <;> rfl) | (simp [*, errW_none, errW_some] <;> rfl), by repeat (first | (with_reducible first | exact HB.out | apply below_alloc | apply pw_below_drewN | apply below_drew1 | refine below_set ?_ GE786.out | refine below_set ?_ GE787.out) | exact HB.out)⟩
                       ·rw [if_neg c104] at H
                        exact absurd H (by simp)
                      ·rw [if_neg c103] at H
                       exact absurd H (by simp)
                     ·rw [if_neg c101] at H
                      exact absurd H (by simp)
                   ·rw [if_neg c92] at H
                    have c92b0 : (a0_2 == 0) = false := beq_eq_false_iff_ne.mpr c92
                    have c92b1 : (a0_2 != 0) = true := bne_iff_ne.mpr c92
                    replace H := Option.bind_eq_some_iff.mp H
                    obtain ⟨t821, A1080, H⟩ := H
                    have A108 := Aside0.mk A1080
                    clear A1080
                    by_cases c109 : t821 = a0_2
                    ·rw [if_pos c109] at H
                     have c109b0 : (t821 == a0_2) = true := beq_iff_eq.mpr c109
                     have c109b1 : (t821 != a0_2) = false := bne_eq_false_iff_eq.mpr c109
                     clear c109
                     by_cases c110 : a0_3 = 0
                     ·rw [if_pos c110] at H
                      have c110b0 : (a0_3 == 0) = true := beq_iff_eq.mpr c110
                      have c110b1 : (a0_3 != 0) = false := bne_eq_false_iff_eq.mpr c110
                      clear c110
                      replace H := Option.bind_eq_some_iff.mp H
                      obtain ⟨⟨t822, t823⟩, A1110, H⟩ := H
                      have A111 := Aside0.mk A1110
                      clear A1110
                      by_cases c112 : t823 = 0
                      ·rw [if_pos c112] at H
                       have c112b0 : (t823 == 0) = true := beq_iff_eq.mpr c112
                       have c112b1 : (t823 != 0) = false := bne_eq_false_iff_eq.mpr c112
                       clear c112
                       by_cases c113 : t789 = (Go.bits .or .u32 (Go.bits .or .u32 (Go.bits .or .u32 (Go.bits .or .u32 t796 t822) ((((a0_1) % 4294967296) * 128) % 4294967296)) ((((a0_2) % 4294967296) * 32768) % 4294967296)) ((((a0_3) % 4294967296) * 1048576) % 4294967296))
                       ·rw [if_pos c113] at H
                        have c113b0 : (t789 == (Go.bits .or .u32 (Go.bits .or .u32 (Go.bits .or .u32 (Go.bits .or .u32 t796 t822) ((((a0_1) % 4294967296) * 128) % 4294967296)) ((((a0_2) % 4294967296) * 32768) % 4294967296)) ((((a0_3) % 4294967296) * 1048576) % 4294967296))) = true := beq_iff_eq.mpr c113
                        have c113b1 : (t789 != (Go.bits .or .u32 (Go.bits .or .u32 (Go.bits .or .u32 (Go.bits .or .u32 t796 t822) ((((a0_1) % 4294967296) * 128) % 4294967296)) ((((a0_2) % 4294967296) * 32768) % 4294967296)) ((((a0_3) % 4294967296) * 1048576) % 4294967296))) = false := bne_eq_false_iff_eq.mpr c113
                        clear c113
                        obtain rfl := Option.some.inj H
                        try go_wp2
                        have n0_ := Aside0.mk (Kd.R_drew HO_14.out)
                        have n1_ := Aside0.mk (blk_drew BK786.out)
                        have n2_ := Aside0.mk (blk_drew BK787.out)
                        have n3_ := Aside0.mk (below_drew1 HB.out)
                        clear HO_14
                        clear BK786
                        clear BK787
                        clear HB
                        have HO_14 := n0_
                        have BK786 := n1_
                        have BK787 := n2_
                        have HB := n3_
                        clear n0_ n1_ n2_ n3_
                        as_aux_lemma =>
                         refine start_ (n := 39) (S := fun w' => w'.cell? ⟨gb786, 0, none⟩ = some (.int .u8 a0_0) ∧ w'.cell? ⟨gb786, 1, none⟩ = some (.int .i64 a0_1) ∧ w'.cell? ⟨gb786, 2, none⟩ = some (.int .i64 a0_2) ∧ w'.cell? ⟨gb786, 3, none⟩ = some (.int .i64 a0_3) ∧ w'.cell? ⟨gb786, 4, none⟩ = some (.int .i64 a0_4)) (ds := []) quoinlaw03_EncAlone.m0 (by kernel_rfl) rfl rfl ⟨(blk_cell BK786.out 0).trans rfl, (blk_cell BK786.out 1).trans rfl, (blk_cell BK786.out 2).trans rfl, (blk_cell BK786.out 3).trans rfl, (blk_cell BK786.out 4).trans rfl⟩ (fun hHeld => ?_); refine with_tabW quoinlaw03_EncAlone.tab20 quoinlaw03_EncAlone.bits20 (fun HT_ HW_ => ?_)
                         generalize wc.drew = w114 at HO_14 BK786 BK787 HB hHeld ⊢
                         refine pure_ (i := 0) (N := some 121) (v := ?_) (a' := ?_) quoinlaw03_EncAlone.m1 rfl rfl (any_of HT_.out (by kernel_rfl)) (fun _ _ _ h => h) (Or.inl ⟨by rfl, ?_⟩) ?_ ?_; rotate_left; · intro w'; go_simp; with_reducible rfl
                         rotate_left; · simp only [Act.put, List.setIfInBounds_toArray, List.set_cons_zero, List.set_cons_succ, i64_w, i32_w]; rfl
                         refine pure_ (i := 1) (N := some 122) (v := ?_) (a' := ?_) quoinlaw03_EncAlone.m2 rfl rfl (any_of HT_.out (by kernel_rfl)) (fun _ _ _ h => h) (Or.inl ⟨by rfl, ?_⟩) ?_ ?_; rotate_left; · intro w'; go_simp; with_reducible rfl
                         rotate_left; · simp only [Act.put, List.setIfInBounds_toArray, List.set_cons_zero, List.set_cons_succ, i64_w, i32_w]; rfl
                         refine pure_ (i := 2) (N := some 123) (v := ?_) (a' := ?_) quoinlaw03_EncAlone.m3 rfl rfl (any_of HT_.out (by kernel_rfl)) (fun _ _ _ h => h) (Or.inl ⟨by rfl, ?_⟩) ?_ ?_; rotate_left; · intro w'; go_simp; with_reducible rfl
                         rotate_left; · simp only [Act.put, List.setIfInBounds_toArray, List.set_cons_zero, List.set_cons_succ, i64_w, i32_w]; rfl
                         refine pure_ (i := 3) (N := some 124) (v := ?_) (a' := ?_) quoinlaw03_EncAlone.m4 rfl rfl (any_of HT_.out (by kernel_rfl)) (fun _ _ _ h => h) (Or.inl ⟨by rfl, ?_⟩) ?_ ?_; rotate_left; · intro w'; go_simp; with_reducible rfl
                         rotate_left; · simp only [Act.put, List.setIfInBounds_toArray, List.set_cons_zero, List.set_cons_succ, i64_w, i32_w]; rfl
                         refine pure_ (i := 4) (N := some 125) (v := ?_) (a' := ?_) quoinlaw03_EncAlone.m5 rfl rfl (any_of HT_.out (by kernel_rfl)) (fun _ _ _ h => h) (Or.inl ⟨by rfl, ?_⟩) ?_ ?_; rotate_left; · intro w'; go_simp; with_reducible rfl
                         rotate_left; · simp only [Act.put, List.setIfInBounds_toArray, List.set_cons_zero, List.set_cons_succ, i64_w, i32_w]; rfl
                         refine take_ (i := 5) (N := some 126) (v := ?_) (a' := ?_) quoinlaw03_EncAlone.m6 rfl rfl (take_ofW HT_.out HW_.out (by kernel_rfl)) (fun _ _ _ h => h) (Or.inl ⟨by rfl, ?_⟩) hHeld ?_ ?_
                         rotate_left
                         ·rintro w' ⟨s0, s1, s2, s3, s4⟩
                          go_simp
                          with_reducible rfl
                         rotate_left
                         ·simp only [Act.put, List.setIfInBounds_toArray, List.set_cons_zero, List.set_cons_succ, i64_w, i32_w]
                          rfl
                         refine pure_ (i := 6) (N := some 127) (v := ?_) (a' := ?_) quoinlaw03_EncAlone.m7 rfl rfl (any_of HT_.out (by kernel_rfl)) (fun _ _ _ h => h) (Or.inl ⟨by rfl, ?_⟩) ?_ ?_; rotate_left; · intro w'; go_simp; with_reducible rfl
                         rotate_left; · simp only [Act.put, List.setIfInBounds_toArray, List.set_cons_zero, List.set_cons_succ, i64_w, i32_w]; rfl
                         refine pure_ (i := 7) (N := some 128) (v := ?_) (a' := ?_) quoinlaw03_EncAlone.m8 rfl rfl (any_of HT_.out (by kernel_rfl)) (fun _ _ _ h => h) (Or.inl ⟨by rfl, ?_⟩) ?_ ?_; rotate_left; · intro w'; go_simp; with_reducible rfl
                         rotate_left; · simp only [Act.put, List.setIfInBounds_toArray, List.set_cons_zero, List.set_cons_succ, i64_w, i32_w]; rfl
                         refine pure_ (i := 8) (N := some 129) (v := ?_) (a' := ?_) quoinlaw03_EncAlone.m9 rfl rfl (any_of HT_.out (by kernel_rfl)) (fun _ _ _ h => h) (Or.inl ⟨by rfl, ?_⟩) ?_ ?_; rotate_left; · intro w'; go_simp; with_reducible rfl
                         rotate_left; · simp only [Act.put, List.setIfInBounds_toArray, List.set_cons_zero, List.set_cons_succ, i64_w, i32_w]; rfl
                         refine pure_ (i := 10) (N := some 131) (v := ?_) (a' := ?_) quoinlaw03_EncAlone.m44 rfl rfl (any_of HT_.out (by kernel_rfl)) (fun _ _ _ h => h) (Or.inl ⟨by rfl, ?_⟩) ?_ ?_; rotate_left; · intro w'; go_simp; with_reducible rfl
                         rotate_left; · simp only [Act.put, List.setIfInBounds_toArray, List.set_cons_zero, List.set_cons_succ, i64_w, i32_w]; rfl
                         refine take_ (i := 11) (N := some 132) (v := ?_) (a' := ?_) quoinlaw03_EncAlone.m45 rfl rfl (take_ofW HT_.out HW_.out (by kernel_rfl)) (fun _ _ _ h => h) (Or.inl ⟨by rfl, ?_⟩) hHeld ?_ ?_
                         rotate_left
                         ·rintro w' ⟨s0, s1, s2, s3, s4⟩
                          go_simp
                          with_reducible rfl
                         rotate_left
                         ·simp only [Act.put, List.setIfInBounds_toArray, List.set_cons_zero, List.set_cons_succ, i64_w, i32_w]
                          rfl
                         refine one_ (i := 9) (N := some 130) quoinlaw03_EncAlone.m12 rfl rfl (one_of HT_.out (by kernel_rfl)) (by decide) (fun K hK => ?_)
                         refine goes_ Tryd.func53 (by kernel_rfl) rfl #[.int .u32 t789, .int .i64 7] (by rfl) rfl rfl (by (try simp only [List.map_toArray, List.map_cons, List.map_nil]); first | done | rfl | (simp only [List.length_drop, List.length_take]; rfl)) ?_
                         with_reducible refine (quoinlaw03_field.calls t789 7 t815 _ A90.out).mono ?_
                         rintro e w' ⟨rfl, ⟨nd, rfl⟩⟩
                         refine ⟨_, rfl, ?_⟩
                         refine hK.out _ _ ⟨(blk_cell BK786.out 0).trans rfl, (blk_cell BK786.out 1).trans rfl, (blk_cell BK786.out 2).trans rfl, (blk_cell BK786.out 3).trans rfl, (blk_cell BK786.out 4).trans rfl⟩ (fun hHeld => ?_)
                         clear hK K
                         refine norm_ (a' := ?_) ?_ ?_
                         rotate_left
                         ·show Act.put _ (some 130) _ = _
                          simp only [Act.put, List.setIfInBounds_toArray, List.set_cons_zero, List.set_cons_succ, i64_w, i32_w]
                          rfl
                         refine pure_ (i := 12) (N := some 133) (v := ?_) (a' := ?_) quoinlaw03_EncAlone.m13 rfl rfl (any_of HT_.out (by kernel_rfl)) (fun _ _ _ h => h) (Or.inl ⟨by rfl, ?_⟩) ?_ ?_; rotate_left; · intro w'; go_simp; with_reducible rfl
                         rotate_left; · simp only [Act.put, List.setIfInBounds_toArray, List.set_cons_zero, List.set_cons_succ, i64_w, i32_w]; rfl
                         refine pure_ (i := 13) (N := some 134) (v := ?_) (a' := ?_) quoinlaw03_EncAlone.m14 rfl rfl (any_of HT_.out (by kernel_rfl)) (fun _ _ _ h => h) (Or.inl ⟨by rfl, ?_⟩) ?_ ?_; rotate_left; · intro w'; go_simp; with_reducible rfl
                         rotate_left; · simp only [Act.put, List.setIfInBounds_toArray, List.set_cons_zero, List.set_cons_succ, i64_w, i32_w]; rfl
                         refine pure_ (i := 14) (N := some 135) (v := ?_) (a' := ?_) quoinlaw03_EncAlone.m15 rfl rfl (any_of HT_.out (by kernel_rfl)) (fun _ _ _ h => h) (Or.inl ⟨by rfl, ?_⟩) ?_ ?_; rotate_left; · intro w'; go_simp; with_reducible rfl
                         rotate_left; · simp only [Act.put, List.setIfInBounds_toArray, List.set_cons_zero, List.set_cons_succ, i64_w, i32_w]; rfl
                         refine pure_ (i := 15) (N := some 136) (v := ?_) (a' := ?_) quoinlaw03_EncAlone.m16 rfl rfl (any_of HT_.out (by kernel_rfl)) (fun _ _ _ h => h) (Or.inl ⟨by rfl, ?_⟩) ?_ ?_; rotate_left; · intro w'; go_simp; with_reducible rfl
                         rotate_left; · simp only [Act.put, List.setIfInBounds_toArray, List.set_cons_zero, List.set_cons_succ, i64_w, i32_w]; rfl
                         refine pure_ (i := 16) (N := some 137) (v := ?_) (a' := ?_) quoinlaw03_EncAlone.m17 rfl rfl (any_of HT_.out (by kernel_rfl)) (fun _ _ _ h => h) (Or.inl ⟨by rfl, ?_⟩) ?_ ?_; rotate_left; · intro w'; go_simp; with_reducible rfl
                         rotate_left; · simp only [Act.put, List.setIfInBounds_toArray, List.set_cons_zero, List.set_cons_succ, i64_w, i32_w]; rfl
                         refine take_ (i := 17) (N := some 138) (v := ?_) (a' := ?_) quoinlaw03_EncAlone.m18 rfl rfl (take_ofW HT_.out HW_.out (by kernel_rfl)) (fun _ _ _ h => h) (Or.inl ⟨by rfl, ?_⟩) hHeld ?_ ?_
                         rotate_left
                         ·rintro w' ⟨s0, s1, s2, s3, s4⟩
                          go_simp
                          with_reducible rfl
                         rotate_left
                         ·simp only [Act.put, List.setIfInBounds_toArray, List.set_cons_zero, List.set_cons_succ, i64_w, i32_w]
                          rfl
                         refine pure_ (i := 18) (N := some 139) (v := ?_) (a' := ?_) quoinlaw03_EncAlone.m19 rfl rfl (any_of HT_.out (by kernel_rfl)) (fun _ _ _ h => h) (Or.inl ⟨by rfl, ?_⟩) ?_ ?_; rotate_left; · intro w'; go_simp; with_reducible rfl
                         rotate_left; · simp only [Act.put, List.setIfInBounds_toArray, List.set_cons_zero, List.set_cons_succ, i64_w, i32_w]; rfl
                         refine pure_ (i := 19) (N := some 140) (v := ?_) (a' := ?_) quoinlaw03_EncAlone.m20 rfl rfl (any_of HT_.out (by kernel_rfl)) (fun _ _ _ h => h) (Or.inl ⟨by rfl, ?_⟩) ?_ ?_; rotate_left; · intro w'; go_simp; with_reducible rfl
                         rotate_left; · simp only [Act.put, List.setIfInBounds_toArray, List.set_cons_zero, List.set_cons_succ, i64_w, i32_w]; rfl
                         refine pure_ (i := 20) (N := some 141) (v := ?_) (a' := ?_) quoinlaw03_EncAlone.m21 rfl rfl (any_of HT_.out (by kernel_rfl)) (fun _ _ _ h => h) (Or.inl ⟨by rfl, ?_⟩) ?_ ?_; rotate_left; · intro w'; go_simp; with_reducible rfl
                         rotate_left; · simp only [Act.put, List.setIfInBounds_toArray, List.set_cons_zero, List.set_cons_succ, i64_w, i32_w]; rfl
                         refine pure_ (i := 22) (N := some 143) (v := ?_) (a' := ?_) quoinlaw03_EncAlone.m42 rfl rfl (any_of HT_.out (by kernel_rfl)) (fun _ _ _ h => h) (Or.inl ⟨by rfl, ?_⟩) ?_ ?_; rotate_left; · intro w'; go_simp; with_reducible rfl
                         rotate_left; · simp only [Act.put, List.setIfInBounds_toArray, List.set_cons_zero, List.set_cons_succ, i64_w, i32_w]; rfl
                         refine take_ (i := 23) (N := some 144) (v := ?_) (a' := ?_) quoinlaw03_EncAlone.m43 rfl rfl (take_ofW HT_.out HW_.out (by kernel_rfl)) (fun _ _ _ h => h) (Or.inl ⟨by rfl, ?_⟩) hHeld ?_ ?_
                         rotate_left
                         ·rintro w' ⟨s0, s1, s2, s3, s4⟩
                          go_simp
                          with_reducible rfl
                         rotate_left
                         ·simp only [Act.put, List.setIfInBounds_toArray, List.set_cons_zero, List.set_cons_succ, i64_w, i32_w]
                          rfl
                         refine one_ (i := 21) (N := some 142) quoinlaw03_EncAlone.m24 rfl rfl (one_of HT_.out (by kernel_rfl)) (by decide) (fun K hK => ?_)
                         refine goes_ Tryd.func53 (by kernel_rfl) rfl #[.int .u32 t789, .int .i64 15] (by rfl) rfl rfl (by (try simp only [List.map_toArray, List.map_cons, List.map_nil]); first | done | rfl | (simp only [List.length_drop, List.length_take]; rfl)) ?_
                         with_reducible refine (quoinlaw03_field.calls t789 15 t821 _ A108.out).mono ?_
                         rintro e w' ⟨rfl, ⟨nd, rfl⟩⟩
                         refine ⟨_, rfl, ?_⟩
                         refine hK.out _ _ ⟨(blk_cell BK786.out 0).trans rfl, (blk_cell BK786.out 1).trans rfl, (blk_cell BK786.out 2).trans rfl, (blk_cell BK786.out 3).trans rfl, (blk_cell BK786.out 4).trans rfl⟩ (fun hHeld => ?_)
                         clear hK K
                         refine norm_ (a' := ?_) ?_ ?_
                         rotate_left
                         ·show Act.put _ (some 142) _ = _
                          simp only [Act.put, List.setIfInBounds_toArray, List.set_cons_zero, List.set_cons_succ, i64_w, i32_w]
                          rfl
                         refine pure_ (i := 24) (N := some 145) (v := ?_) (a' := ?_) quoinlaw03_EncAlone.m25 rfl rfl (any_of HT_.out (by kernel_rfl)) (fun _ _ _ h => h) (Or.inl ⟨by rfl, ?_⟩) ?_ ?_; rotate_left; · intro w'; go_simp; with_reducible rfl
                         rotate_left; · simp only [Act.put, List.setIfInBounds_toArray, List.set_cons_zero, List.set_cons_succ, i64_w, i32_w]; rfl
                         refine pure_ (i := 25) (N := some 146) (v := ?_) (a' := ?_) quoinlaw03_EncAlone.m26 rfl rfl (any_of HT_.out (by kernel_rfl)) (fun _ _ _ h => h) (Or.inl ⟨by rfl, ?_⟩) ?_ ?_; rotate_left; · intro w'; go_simp; with_reducible rfl
                         rotate_left; · simp only [Act.put, List.setIfInBounds_toArray, List.set_cons_zero, List.set_cons_succ, i64_w, i32_w]; rfl
                         refine pure_ (i := 26) (N := some 147) (v := ?_) (a' := ?_) quoinlaw03_EncAlone.m27 rfl rfl (any_of HT_.out (by kernel_rfl)) (fun _ _ _ h => h) (Or.inl ⟨by rfl, ?_⟩) ?_ ?_; rotate_left; · intro w'; go_simp; with_reducible rfl
                         rotate_left; · simp only [Act.put, List.setIfInBounds_toArray, List.set_cons_zero, List.set_cons_succ, i64_w, i32_w]; rfl
                         refine pure_ (i := 27) (N := some 148) (v := ?_) (a' := ?_) quoinlaw03_EncAlone.m28 rfl rfl (any_of HT_.out (by kernel_rfl)) (fun _ _ _ h => h) (Or.inl ⟨by rfl, ?_⟩) ?_ ?_; rotate_left; · intro w'; go_simp; with_reducible rfl
                         rotate_left; · simp only [Act.put, List.setIfInBounds_toArray, List.set_cons_zero, List.set_cons_succ, i64_w, i32_w]; rfl
                         refine pure_ (i := 28) (N := some 149) (v := ?_) (a' := ?_) quoinlaw03_EncAlone.m29 rfl rfl (any_of HT_.out (by kernel_rfl)) (fun _ _ _ h => h) (Or.inl ⟨by rfl, ?_⟩) ?_ ?_; rotate_left; · intro w'; go_simp; with_reducible rfl
                         rotate_left; · simp only [Act.put, List.setIfInBounds_toArray, List.set_cons_zero, List.set_cons_succ, i64_w, i32_w]; rfl
                         refine take_ (i := 29) (N := some 150) (v := ?_) (a' := ?_) quoinlaw03_EncAlone.m30 rfl rfl (take_ofW HT_.out HW_.out (by kernel_rfl)) (fun _ _ _ h => h) (Or.inl ⟨by rfl, ?_⟩) hHeld ?_ ?_
                         rotate_left
                         ·rintro w' ⟨s0, s1, s2, s3, s4⟩
                          go_simp
                          with_reducible rfl
                         rotate_left
                         ·simp only [Act.put, List.setIfInBounds_toArray, List.set_cons_zero, List.set_cons_succ, i64_w, i32_w]
                          rfl
                         refine pure_ (i := 30) (N := some 151) (v := ?_) (a' := ?_) quoinlaw03_EncAlone.m31 rfl rfl (any_of HT_.out (by kernel_rfl)) (fun _ _ _ h => h) (Or.inl ⟨by rfl, ?_⟩) ?_ ?_; rotate_left; · intro w'; go_simp; with_reducible rfl
                         rotate_left; · simp only [Act.put, List.setIfInBounds_toArray, List.set_cons_zero, List.set_cons_succ, i64_w, i32_w]; rfl
                         refine pure_ (i := 31) (N := some 152) (v := ?_) (a' := ?_) quoinlaw03_EncAlone.m32 rfl rfl (any_of HT_.out (by kernel_rfl)) (fun _ _ _ h => h) (Or.inl ⟨by rfl, ?_⟩) ?_ ?_; rotate_left; · intro w'; go_simp; with_reducible rfl
                         rotate_left; · simp only [Act.put, List.setIfInBounds_toArray, List.set_cons_zero, List.set_cons_succ, i64_w, i32_w]; rfl
                         refine pure_ (i := 32) (N := some 153) (v := undef) (a' := ?_) quoinlaw03_EncAlone.m33 rfl rfl (any_of HT_.out (by kernel_rfl)) (fun _ _ _ h => h) (Or.inr ⟨by rfl, rfl⟩) ?_ ?_
                         rotate_left
                         ·simp only [Act.put, List.setIfInBounds_toArray, List.set_cons_zero, List.set_cons_succ, i64_w, i32_w]
                          rfl
                         refine pure_ (i := 33) (N := some 154) (v := undef) (a' := ?_) quoinlaw03_EncAlone.m34 rfl rfl (any_of HT_.out (by kernel_rfl)) (fun _ _ _ h => h) (Or.inr ⟨by rfl, rfl⟩) ?_ ?_
                         rotate_left
                         ·simp only [Act.put, List.setIfInBounds_toArray, List.set_cons_zero, List.set_cons_succ, i64_w, i32_w]
                          rfl
                         refine pure_ (i := 34) (N := some 155) (v := undef) (a' := ?_) quoinlaw03_EncAlone.m35 rfl rfl (any_of HT_.out (by kernel_rfl)) (fun _ _ _ h => h) (Or.inr ⟨by rfl, rfl⟩) ?_ ?_
                         rotate_left
                         ·simp only [Act.put, List.setIfInBounds_toArray, List.set_cons_zero, List.set_cons_succ, i64_w, i32_w]
                          rfl
                         refine pure_ (i := 35) (N := some 156) (v := undef) (a' := ?_) quoinlaw03_EncAlone.m36 rfl rfl (any_of HT_.out (by kernel_rfl)) (fun _ _ _ h => h) (Or.inr ⟨by rfl, rfl⟩) ?_ ?_
                         rotate_left
                         ·simp only [Act.put, List.setIfInBounds_toArray, List.set_cons_zero, List.set_cons_succ, i64_w, i32_w]
                          rfl
                         refine pure_ (i := 36) (N := some 157) (v := undef) (a' := ?_) quoinlaw03_EncAlone.m37 rfl rfl (any_of HT_.out (by kernel_rfl)) (fun _ _ _ h => h) (Or.inr ⟨by rfl, rfl⟩) ?_ ?_
                         rotate_left
                         ·simp only [Act.put, List.setIfInBounds_toArray, List.set_cons_zero, List.set_cons_succ, i64_w, i32_w]
                          rfl
                         refine pure_ (i := 37) (N := some 158) (v := ?_) (a' := ?_) quoinlaw03_EncAlone.m38 rfl rfl (any_of HT_.out (by kernel_rfl)) (fun _ _ _ h => h) (Or.inl ⟨by rfl, ?_⟩) ?_ ?_; rotate_left; · intro w'; go_simp; with_reducible rfl
                         rotate_left; · simp only [Act.put, List.setIfInBounds_toArray, List.set_cons_zero, List.set_cons_succ, i64_w, i32_w]; rfl
                         refine pure_ (i := 38) (N := some 159) (v := ?_) (a' := ?_) quoinlaw03_EncAlone.m39 rfl rfl (any_of HT_.out (by kernel_rfl)) (fun _ _ _ h => h) (Or.inl ⟨by rfl, ?_⟩) ?_ ?_; rotate_left; · intro w'; go_simp; with_reducible rfl
                         rotate_left; · simp only [Act.put, List.setIfInBounds_toArray, List.set_cons_zero, List.set_cons_succ, i64_w, i32_w]; rfl
                         refine done_ (done_of HT_.out (by kernel_rfl)) ?_
                         try go_wp2_with (first | ((with_reducible refine gate_callee (f := 54) rfl ?_); refine goesL_ (some 163) rfl rfl Tryd.func54 (by kernel_rfl) rfl #[.int .u32 t802, .slice Ao37 t798.length co37] rfl (by (try simp only [List.map_toArray, List.map_cons, List.map_nil]); first | done | rfl | (simp only [List.length_drop, List.length_take]; rfl)) ?_; (with_reducible refine (bits_Scatter.calls kj47 t802 _ _ t798 t822 t823 _ ?side1 ?side2 A111.out).mono ?_); (case side1 => repeat (first | exact (Kd.R_reads' HO_14.out).2.2 | (with_reducible refine Kd.C_alloc ?_ _) | (with_reducible refine Kd.C_drewN ?_ _) | (with_reducible refine Kd.C_drew ?_))); (case side2 => exact (Kd.R_reads' HO_14.out).2.1); rintro e w' ⟨rfl, ⟨nd, rfl⟩⟩; refine ⟨_, rfl, ?_⟩; have hnb115 := NB786_787.out; have hnc115 := NB787_786.out; have hcz116_0 : w114.cell? ⟨gb786, 0, none⟩ = some (.int .u8 a0_0) := (blk_cell BK786.out 0).trans rfl; have hcz116_1 : w114.cell? ⟨gb786, 1, none⟩ = some (.int .i64 a0_1) := (blk_cell BK786.out 1).trans rfl; have hcz116_2 : w114.cell? ⟨gb786, 2, none⟩ = some (.int .i64 a0_2) := (blk_cell BK786.out 2).trans rfl; have hcz116_3 : w114.cell? ⟨gb786, 3, none⟩ = some (.int .i64 a0_3) := (blk_cell BK786.out 3).trans rfl; have hcz116_4 : w114.cell? ⟨gb786, 4, none⟩ = some (.int .i64 a0_4) := (blk_cell BK786.out 4).trans rfl; have hfz116_0 := blk_frozen BK786.out 0; have hfz116_1 := blk_frozen BK786.out 1; have hfz116_2 := blk_frozen BK786.out 2; have hfz116_3 := blk_frozen BK786.out 3; have hfz116_4 := blk_frozen BK786.out 4))
                         go_ret
                         exact ⟨by first | rfl | (simp [errW_none, errW_some] <;> rfl) | (simp [*, errW_none, errW_some] <;> rfl), by repeat (first | (with_reducible first | exact HB.out | apply below_alloc | apply pw_below_drewN | apply below_drew1 | refine below_set ?_ GE786.out | refine below_set ?_ GE787.out) | exact HB.out)⟩
                       ·rw [if_neg c113] at H
                        exact absurd H (by simp)
                      ·rw [if_neg c112] at H
                       exact absurd H (by simp)
                     ·rw [if_neg c110] at H
                      have c110b0 : (a0_3 == 0) = false := beq_eq_false_iff_ne.mpr c110
                      have c110b1 : (a0_3 != 0) = true := bne_iff_ne.mpr c110
                      replace H := Option.bind_eq_some_iff.mp H
                      obtain ⟨t824, A1170, H⟩ := H
                      have A117 := Aside0.mk A1170
                      clear A1170
                      by_cases c118 : t824 = a0_3
                      ·rw [if_pos c118] at H
                       have c118b0 : (t824 == a0_3) = true := beq_iff_eq.mpr c118
                       have c118b1 : (t824 != a0_3) = false := bne_eq_false_iff_eq.mpr c118
                       clear c118
                       replace H := Option.bind_eq_some_iff.mp H
                       obtain ⟨⟨t825, t826⟩, A1190, H⟩ := H
                       have A119 := Aside0.mk A1190
                       clear A1190
                       by_cases c120 : t826 = 0
                       ·rw [if_pos c120] at H
                        have c120b0 : (t826 == 0) = true := beq_iff_eq.mpr c120
                        have c120b1 : (t826 != 0) = false := bne_eq_false_iff_eq.mpr c120
                        clear c120
                        by_cases c121 : t789 = (Go.bits .or .u32 (Go.bits .or .u32 (Go.bits .or .u32 (Go.bits .or .u32 t796 t825) ((((a0_1) % 4294967296) * 128) % 4294967296)) ((((a0_2) % 4294967296) * 32768) % 4294967296)) ((((a0_3) % 4294967296) * 1048576) % 4294967296))
                        ·rw [if_pos c121] at H
                         have c121b0 : (t789 == (Go.bits .or .u32 (Go.bits .or .u32 (Go.bits .or .u32 (Go.bits .or .u32 t796 t825) ((((a0_1) % 4294967296) * 128) % 4294967296)) ((((a0_2) % 4294967296) * 32768) % 4294967296)) ((((a0_3) % 4294967296) * 1048576) % 4294967296))) = true := beq_iff_eq.mpr c121
                         have c121b1 : (t789 != (Go.bits .or .u32 (Go.bits .or .u32 (Go.bits .or .u32 (Go.bits .or .u32 t796 t825) ((((a0_1) % 4294967296) * 128) % 4294967296)) ((((a0_2) % 4294967296) * 32768) % 4294967296)) ((((a0_3) % 4294967296) * 1048576) % 4294967296))) = false := bne_eq_false_iff_eq.mpr c121
                         clear c121
                         obtain rfl := Option.some.inj H
                         try go_wp2
                         have n0_ := Aside0.mk (Kd.R_drew HO_14.out)
                         have n1_ := Aside0.mk (blk_drew BK786.out)
                         have n2_ := Aside0.mk (blk_drew BK787.out)
                         have n3_ := Aside0.mk (below_drew1 HB.out)
                         clear HO_14
                         clear BK786
                         clear BK787
                         clear HB
                         have HO_14 := n0_
                         have BK786 := n1_
                         have BK787 := n2_
                         have HB := n3_
                         clear n0_ n1_ n2_ n3_
                         as_aux_lemma =>
                          refine start_ (n := 39) (S := fun w' => w'.cell? ⟨gb786, 0, none⟩ = some (.int .u8 a0_0) ∧ w'.cell? ⟨gb786, 1, none⟩ = some (.int .i64 a0_1) ∧ w'.cell? ⟨gb786, 2, none⟩ = some (.int .i64 a0_2) ∧ w'.cell? ⟨gb786, 3, none⟩ = some (.int .i64 a0_3) ∧ w'.cell? ⟨gb786, 4, none⟩ = some (.int .i64 a0_4)) (ds := []) quoinlaw03_EncAlone.m0 (by kernel_rfl) rfl rfl ⟨(blk_cell BK786.out 0).trans rfl, (blk_cell BK786.out 1).trans rfl, (blk_cell BK786.out 2).trans rfl, (blk_cell BK786.out 3).trans rfl, (blk_cell BK786.out 4).trans rfl⟩ (fun hHeld => ?_); refine with_tabW quoinlaw03_EncAlone.tab20 quoinlaw03_EncAlone.bits20 (fun HT_ HW_ => ?_)
                          generalize wc.drew = w122 at HO_14 BK786 BK787 HB hHeld ⊢
                          refine pure_ (i := 0) (N := some 121) (v := ?_) (a' := ?_) quoinlaw03_EncAlone.m1 rfl rfl (any_of HT_.out (by kernel_rfl)) (fun _ _ _ h => h) (Or.inl ⟨by rfl, ?_⟩) ?_ ?_; rotate_left; · intro w'; go_simp; with_reducible rfl
                          rotate_left; · simp only [Act.put, List.setIfInBounds_toArray, List.set_cons_zero, List.set_cons_succ, i64_w, i32_w]; rfl
                          refine pure_ (i := 1) (N := some 122) (v := ?_) (a' := ?_) quoinlaw03_EncAlone.m2 rfl rfl (any_of HT_.out (by kernel_rfl)) (fun _ _ _ h => h) (Or.inl ⟨by rfl, ?_⟩) ?_ ?_; rotate_left; · intro w'; go_simp; with_reducible rfl
                          rotate_left; · simp only [Act.put, List.setIfInBounds_toArray, List.set_cons_zero, List.set_cons_succ, i64_w, i32_w]; rfl
                          refine pure_ (i := 2) (N := some 123) (v := ?_) (a' := ?_) quoinlaw03_EncAlone.m3 rfl rfl (any_of HT_.out (by kernel_rfl)) (fun _ _ _ h => h) (Or.inl ⟨by rfl, ?_⟩) ?_ ?_; rotate_left; · intro w'; go_simp; with_reducible rfl
                          rotate_left; · simp only [Act.put, List.setIfInBounds_toArray, List.set_cons_zero, List.set_cons_succ, i64_w, i32_w]; rfl
                          refine pure_ (i := 3) (N := some 124) (v := ?_) (a' := ?_) quoinlaw03_EncAlone.m4 rfl rfl (any_of HT_.out (by kernel_rfl)) (fun _ _ _ h => h) (Or.inl ⟨by rfl, ?_⟩) ?_ ?_; rotate_left; · intro w'; go_simp; with_reducible rfl
                          rotate_left; · simp only [Act.put, List.setIfInBounds_toArray, List.set_cons_zero, List.set_cons_succ, i64_w, i32_w]; rfl
                          refine pure_ (i := 4) (N := some 125) (v := ?_) (a' := ?_) quoinlaw03_EncAlone.m5 rfl rfl (any_of HT_.out (by kernel_rfl)) (fun _ _ _ h => h) (Or.inl ⟨by rfl, ?_⟩) ?_ ?_; rotate_left; · intro w'; go_simp; with_reducible rfl
                          rotate_left; · simp only [Act.put, List.setIfInBounds_toArray, List.set_cons_zero, List.set_cons_succ, i64_w, i32_w]; rfl
                          refine take_ (i := 5) (N := some 126) (v := ?_) (a' := ?_) quoinlaw03_EncAlone.m6 rfl rfl (take_ofW HT_.out HW_.out (by kernel_rfl)) (fun _ _ _ h => h) (Or.inl ⟨by rfl, ?_⟩) hHeld ?_ ?_
                          rotate_left
                          ·rintro w' ⟨s0, s1, s2, s3, s4⟩
                           go_simp
                           with_reducible rfl
                          rotate_left
                          ·simp only [Act.put, List.setIfInBounds_toArray, List.set_cons_zero, List.set_cons_succ, i64_w, i32_w]
                           rfl
                          refine pure_ (i := 6) (N := some 127) (v := ?_) (a' := ?_) quoinlaw03_EncAlone.m7 rfl rfl (any_of HT_.out (by kernel_rfl)) (fun _ _ _ h => h) (Or.inl ⟨by rfl, ?_⟩) ?_ ?_; rotate_left; · intro w'; go_simp; with_reducible rfl
                          rotate_left; · simp only [Act.put, List.setIfInBounds_toArray, List.set_cons_zero, List.set_cons_succ, i64_w, i32_w]; rfl
                          refine pure_ (i := 7) (N := some 128) (v := ?_) (a' := ?_) quoinlaw03_EncAlone.m8 rfl rfl (any_of HT_.out (by kernel_rfl)) (fun _ _ _ h => h) (Or.inl ⟨by rfl, ?_⟩) ?_ ?_; rotate_left; · intro w'; go_simp; with_reducible rfl
                          rotate_left; · simp only [Act.put, List.setIfInBounds_toArray, List.set_cons_zero, List.set_cons_succ, i64_w, i32_w]; rfl
                          refine pure_ (i := 8) (N := some 129) (v := ?_) (a' := ?_) quoinlaw03_EncAlone.m9 rfl rfl (any_of HT_.out (by kernel_rfl)) (fun _ _ _ h => h) (Or.inl ⟨by rfl, ?_⟩) ?_ ?_; rotate_left; · intro w'; go_simp; with_reducible rfl
                          rotate_left; · simp only [Act.put, List.setIfInBounds_toArray, List.set_cons_zero, List.set_cons_succ, i64_w, i32_w]; rfl
                          refine pure_ (i := 10) (N := some 131) (v := ?_) (a' := ?_) quoinlaw03_EncAlone.m44 rfl rfl (any_of HT_.out (by kernel_rfl)) (fun _ _ _ h => h) (Or.inl ⟨by rfl, ?_⟩) ?_ ?_; rotate_left; · intro w'; go_simp; with_reducible rfl
                          rotate_left; · simp only [Act.put, List.setIfInBounds_toArray, List.set_cons_zero, List.set_cons_succ, i64_w, i32_w]; rfl
                          refine take_ (i := 11) (N := some 132) (v := ?_) (a' := ?_) quoinlaw03_EncAlone.m45 rfl rfl (take_ofW HT_.out HW_.out (by kernel_rfl)) (fun _ _ _ h => h) (Or.inl ⟨by rfl, ?_⟩) hHeld ?_ ?_
                          rotate_left
                          ·rintro w' ⟨s0, s1, s2, s3, s4⟩
                           go_simp
                           with_reducible rfl
                          rotate_left
                          ·simp only [Act.put, List.setIfInBounds_toArray, List.set_cons_zero, List.set_cons_succ, i64_w, i32_w]
                           rfl
                          refine one_ (i := 9) (N := some 130) quoinlaw03_EncAlone.m12 rfl rfl (one_of HT_.out (by kernel_rfl)) (by decide) (fun K hK => ?_)
                          refine goes_ Tryd.func53 (by kernel_rfl) rfl #[.int .u32 t789, .int .i64 7] (by rfl) rfl rfl (by (try simp only [List.map_toArray, List.map_cons, List.map_nil]); first | done | rfl | (simp only [List.length_drop, List.length_take]; rfl)) ?_
                          with_reducible refine (quoinlaw03_field.calls t789 7 t815 _ A90.out).mono ?_
                          rintro e w' ⟨rfl, ⟨nd, rfl⟩⟩
                          refine ⟨_, rfl, ?_⟩
                          refine hK.out _ _ ⟨(blk_cell BK786.out 0).trans rfl, (blk_cell BK786.out 1).trans rfl, (blk_cell BK786.out 2).trans rfl, (blk_cell BK786.out 3).trans rfl, (blk_cell BK786.out 4).trans rfl⟩ (fun hHeld => ?_)
                          clear hK K
                          refine norm_ (a' := ?_) ?_ ?_
                          rotate_left
                          ·show Act.put _ (some 130) _ = _
                           simp only [Act.put, List.setIfInBounds_toArray, List.set_cons_zero, List.set_cons_succ, i64_w, i32_w]
                           rfl
                          refine pure_ (i := 12) (N := some 133) (v := ?_) (a' := ?_) quoinlaw03_EncAlone.m13 rfl rfl (any_of HT_.out (by kernel_rfl)) (fun _ _ _ h => h) (Or.inl ⟨by rfl, ?_⟩) ?_ ?_; rotate_left; · intro w'; go_simp; with_reducible rfl
                          rotate_left; · simp only [Act.put, List.setIfInBounds_toArray, List.set_cons_zero, List.set_cons_succ, i64_w, i32_w]; rfl
                          refine pure_ (i := 13) (N := some 134) (v := ?_) (a' := ?_) quoinlaw03_EncAlone.m14 rfl rfl (any_of HT_.out (by kernel_rfl)) (fun _ _ _ h => h) (Or.inl ⟨by rfl, ?_⟩) ?_ ?_; rotate_left; · intro w'; go_simp; with_reducible rfl
                          rotate_left; · simp only [Act.put, List.setIfInBounds_toArray, List.set_cons_zero, List.set_cons_succ, i64_w, i32_w]; rfl
                          refine pure_ (i := 14) (N := some 135) (v := ?_) (a' := ?_) quoinlaw03_EncAlone.m15 rfl rfl (any_of HT_.out (by kernel_rfl)) (fun _ _ _ h => h) (Or.inl ⟨by rfl, ?_⟩) ?_ ?_; rotate_left; · intro w'; go_simp; with_reducible rfl
                          rotate_left; · simp only [Act.put, List.setIfInBounds_toArray, List.set_cons_zero, List.set_cons_succ, i64_w, i32_w]; rfl
                          refine pure_ (i := 15) (N := some 136) (v := ?_) (a' := ?_) quoinlaw03_EncAlone.m16 rfl rfl (any_of HT_.out (by kernel_rfl)) (fun _ _ _ h => h) (Or.inl ⟨by rfl, ?_⟩) ?_ ?_; rotate_left; · intro w'; go_simp; with_reducible rfl
                          rotate_left; · simp only [Act.put, List.setIfInBounds_toArray, List.set_cons_zero, List.set_cons_succ, i64_w, i32_w]; rfl
                          refine pure_ (i := 16) (N := some 137) (v := ?_) (a' := ?_) quoinlaw03_EncAlone.m17 rfl rfl (any_of HT_.out (by kernel_rfl)) (fun _ _ _ h => h) (Or.inl ⟨by rfl, ?_⟩) ?_ ?_; rotate_left; · intro w'; go_simp; with_reducible rfl
                          rotate_left; · simp only [Act.put, List.setIfInBounds_toArray, List.set_cons_zero, List.set_cons_succ, i64_w, i32_w]; rfl
                          refine take_ (i := 17) (N := some 138) (v := ?_) (a' := ?_) quoinlaw03_EncAlone.m18 rfl rfl (take_ofW HT_.out HW_.out (by kernel_rfl)) (fun _ _ _ h => h) (Or.inl ⟨by rfl, ?_⟩) hHeld ?_ ?_
                          rotate_left
                          ·rintro w' ⟨s0, s1, s2, s3, s4⟩
                           go_simp
                           with_reducible rfl
                          rotate_left
                          ·simp only [Act.put, List.setIfInBounds_toArray, List.set_cons_zero, List.set_cons_succ, i64_w, i32_w]
                           rfl
                          refine pure_ (i := 18) (N := some 139) (v := ?_) (a' := ?_) quoinlaw03_EncAlone.m19 rfl rfl (any_of HT_.out (by kernel_rfl)) (fun _ _ _ h => h) (Or.inl ⟨by rfl, ?_⟩) ?_ ?_; rotate_left; · intro w'; go_simp; with_reducible rfl
                          rotate_left; · simp only [Act.put, List.setIfInBounds_toArray, List.set_cons_zero, List.set_cons_succ, i64_w, i32_w]; rfl
                          refine pure_ (i := 19) (N := some 140) (v := ?_) (a' := ?_) quoinlaw03_EncAlone.m20 rfl rfl (any_of HT_.out (by kernel_rfl)) (fun _ _ _ h => h) (Or.inl ⟨by rfl, ?_⟩) ?_ ?_; rotate_left; · intro w'; go_simp; with_reducible rfl
                          rotate_left; · simp only [Act.put, List.setIfInBounds_toArray, List.set_cons_zero, List.set_cons_succ, i64_w, i32_w]; rfl
                          refine pure_ (i := 20) (N := some 141) (v := ?_) (a' := ?_) quoinlaw03_EncAlone.m21 rfl rfl (any_of HT_.out (by kernel_rfl)) (fun _ _ _ h => h) (Or.inl ⟨by rfl, ?_⟩) ?_ ?_; rotate_left; · intro w'; go_simp; with_reducible rfl
                          rotate_left; · simp only [Act.put, List.setIfInBounds_toArray, List.set_cons_zero, List.set_cons_succ, i64_w, i32_w]; rfl
                          refine pure_ (i := 22) (N := some 143) (v := ?_) (a' := ?_) quoinlaw03_EncAlone.m42 rfl rfl (any_of HT_.out (by kernel_rfl)) (fun _ _ _ h => h) (Or.inl ⟨by rfl, ?_⟩) ?_ ?_; rotate_left; · intro w'; go_simp; with_reducible rfl
                          rotate_left; · simp only [Act.put, List.setIfInBounds_toArray, List.set_cons_zero, List.set_cons_succ, i64_w, i32_w]; rfl
                          refine take_ (i := 23) (N := some 144) (v := ?_) (a' := ?_) quoinlaw03_EncAlone.m43 rfl rfl (take_ofW HT_.out HW_.out (by kernel_rfl)) (fun _ _ _ h => h) (Or.inl ⟨by rfl, ?_⟩) hHeld ?_ ?_
                          rotate_left
                          ·rintro w' ⟨s0, s1, s2, s3, s4⟩
                           go_simp
                           with_reducible rfl
                          rotate_left
                          ·simp only [Act.put, List.setIfInBounds_toArray, List.set_cons_zero, List.set_cons_succ, i64_w, i32_w]
                           rfl
                          refine one_ (i := 21) (N := some 142) quoinlaw03_EncAlone.m24 rfl rfl (one_of HT_.out (by kernel_rfl)) (by decide) (fun K hK => ?_)
                          refine goes_ Tryd.func53 (by kernel_rfl) rfl #[.int .u32 t789, .int .i64 15] (by rfl) rfl rfl (by (try simp only [List.map_toArray, List.map_cons, List.map_nil]); first | done | rfl | (simp only [List.length_drop, List.length_take]; rfl)) ?_
                          with_reducible refine (quoinlaw03_field.calls t789 15 t821 _ A108.out).mono ?_
                          rintro e w' ⟨rfl, ⟨nd, rfl⟩⟩
                          refine ⟨_, rfl, ?_⟩
                          refine hK.out _ _ ⟨(blk_cell BK786.out 0).trans rfl, (blk_cell BK786.out 1).trans rfl, (blk_cell BK786.out 2).trans rfl, (blk_cell BK786.out 3).trans rfl, (blk_cell BK786.out 4).trans rfl⟩ (fun hHeld => ?_)
                          clear hK K
                          refine norm_ (a' := ?_) ?_ ?_
                          rotate_left
                          ·show Act.put _ (some 142) _ = _
                           simp only [Act.put, List.setIfInBounds_toArray, List.set_cons_zero, List.set_cons_succ, i64_w, i32_w]
                           rfl
                          refine pure_ (i := 24) (N := some 145) (v := ?_) (a' := ?_) quoinlaw03_EncAlone.m25 rfl rfl (any_of HT_.out (by kernel_rfl)) (fun _ _ _ h => h) (Or.inl ⟨by rfl, ?_⟩) ?_ ?_; rotate_left; · intro w'; go_simp; with_reducible rfl
                          rotate_left; · simp only [Act.put, List.setIfInBounds_toArray, List.set_cons_zero, List.set_cons_succ, i64_w, i32_w]; rfl
                          refine pure_ (i := 25) (N := some 146) (v := ?_) (a' := ?_) quoinlaw03_EncAlone.m26 rfl rfl (any_of HT_.out (by kernel_rfl)) (fun _ _ _ h => h) (Or.inl ⟨by rfl, ?_⟩) ?_ ?_; rotate_left; · intro w'; go_simp; with_reducible rfl
                          rotate_left; · simp only [Act.put, List.setIfInBounds_toArray, List.set_cons_zero, List.set_cons_succ, i64_w, i32_w]; rfl
                          refine pure_ (i := 26) (N := some 147) (v := ?_) (a' := ?_) quoinlaw03_EncAlone.m27 rfl rfl (any_of HT_.out (by kernel_rfl)) (fun _ _ _ h => h) (Or.inl ⟨by rfl, ?_⟩) ?_ ?_; rotate_left; · intro w'; go_simp; with_reducible rfl
                          rotate_left; · simp only [Act.put, List.setIfInBounds_toArray, List.set_cons_zero, List.set_cons_succ, i64_w, i32_w]; rfl
                          refine pure_ (i := 27) (N := some 148) (v := ?_) (a' := ?_) quoinlaw03_EncAlone.m28 rfl rfl (any_of HT_.out (by kernel_rfl)) (fun _ _ _ h => h) (Or.inl ⟨by rfl, ?_⟩) ?_ ?_; rotate_left; · intro w'; go_simp; with_reducible rfl
                          rotate_left; · simp only [Act.put, List.setIfInBounds_toArray, List.set_cons_zero, List.set_cons_succ, i64_w, i32_w]; rfl
                          refine pure_ (i := 28) (N := some 149) (v := ?_) (a' := ?_) quoinlaw03_EncAlone.m29 rfl rfl (any_of HT_.out (by kernel_rfl)) (fun _ _ _ h => h) (Or.inl ⟨by rfl, ?_⟩) ?_ ?_; rotate_left; · intro w'; go_simp; with_reducible rfl
                          rotate_left; · simp only [Act.put, List.setIfInBounds_toArray, List.set_cons_zero, List.set_cons_succ, i64_w, i32_w]; rfl
                          refine take_ (i := 29) (N := some 150) (v := ?_) (a' := ?_) quoinlaw03_EncAlone.m30 rfl rfl (take_ofW HT_.out HW_.out (by kernel_rfl)) (fun _ _ _ h => h) (Or.inl ⟨by rfl, ?_⟩) hHeld ?_ ?_
                          rotate_left
                          ·rintro w' ⟨s0, s1, s2, s3, s4⟩
                           go_simp
                           with_reducible rfl
                          rotate_left
                          ·simp only [Act.put, List.setIfInBounds_toArray, List.set_cons_zero, List.set_cons_succ, i64_w, i32_w]
                           rfl
                          refine pure_ (i := 30) (N := some 151) (v := ?_) (a' := ?_) quoinlaw03_EncAlone.m31 rfl rfl (any_of HT_.out (by kernel_rfl)) (fun _ _ _ h => h) (Or.inl ⟨by rfl, ?_⟩) ?_ ?_; rotate_left; · intro w'; go_simp; with_reducible rfl
                          rotate_left; · simp only [Act.put, List.setIfInBounds_toArray, List.set_cons_zero, List.set_cons_succ, i64_w, i32_w]; rfl
                          refine pure_ (i := 31) (N := some 152) (v := ?_) (a' := ?_) quoinlaw03_EncAlone.m32 rfl rfl (any_of HT_.out (by kernel_rfl)) (fun _ _ _ h => h) (Or.inl ⟨by rfl, ?_⟩) ?_ ?_; rotate_left; · intro w'; go_simp; with_reducible rfl
                          rotate_left; · simp only [Act.put, List.setIfInBounds_toArray, List.set_cons_zero, List.set_cons_succ, i64_w, i32_w]; rfl
                          refine pure_ (i := 32) (N := some 153) (v := ?_) (a' := ?_) quoinlaw03_EncAlone.m33 rfl rfl (any_of HT_.out (by kernel_rfl)) (fun _ _ _ h => h) (Or.inl ⟨by rfl, ?_⟩) ?_ ?_; rotate_left; · intro w'; go_simp; with_reducible rfl
                          rotate_left; · simp only [Act.put, List.setIfInBounds_toArray, List.set_cons_zero, List.set_cons_succ, i64_w, i32_w]; rfl
                          refine pure_ (i := 34) (N := some 155) (v := ?_) (a' := ?_) quoinlaw03_EncAlone.m40 rfl rfl (any_of HT_.out (by kernel_rfl)) (fun _ _ _ h => h) (Or.inl ⟨by rfl, ?_⟩) ?_ ?_; rotate_left; · intro w'; go_simp; with_reducible rfl
                          rotate_left; · simp only [Act.put, List.setIfInBounds_toArray, List.set_cons_zero, List.set_cons_succ, i64_w, i32_w]; rfl
                          refine take_ (i := 35) (N := some 156) (v := ?_) (a' := ?_) quoinlaw03_EncAlone.m41 rfl rfl (take_ofW HT_.out HW_.out (by kernel_rfl)) (fun _ _ _ h => h) (Or.inl ⟨by rfl, ?_⟩) hHeld ?_ ?_
                          rotate_left
                          ·rintro w' ⟨s0, s1, s2, s3, s4⟩
                           go_simp
                           with_reducible rfl
                          rotate_left
                          ·simp only [Act.put, List.setIfInBounds_toArray, List.set_cons_zero, List.set_cons_succ, i64_w, i32_w]
                           rfl
                          refine one_ (i := 33) (N := some 154) quoinlaw03_EncAlone.m36 rfl rfl (one_of HT_.out (by kernel_rfl)) (by decide) (fun K hK => ?_)
                          refine goes_ Tryd.func53 (by kernel_rfl) rfl #[.int .u32 t789, .int .i64 20] (by rfl) rfl rfl (by (try simp only [List.map_toArray, List.map_cons, List.map_nil]); first | done | rfl | (simp only [List.length_drop, List.length_take]; rfl)) ?_
                          with_reducible refine (quoinlaw03_field.calls t789 20 t824 _ A117.out).mono ?_
                          rintro e w' ⟨rfl, ⟨nd, rfl⟩⟩
                          refine ⟨_, rfl, ?_⟩
                          refine hK.out _ _ ⟨(blk_cell BK786.out 0).trans rfl, (blk_cell BK786.out 1).trans rfl, (blk_cell BK786.out 2).trans rfl, (blk_cell BK786.out 3).trans rfl, (blk_cell BK786.out 4).trans rfl⟩ (fun hHeld => ?_)
                          clear hK K
                          refine norm_ (a' := ?_) ?_ ?_
                          rotate_left
                          ·show Act.put _ (some 154) _ = _
                           simp only [Act.put, List.setIfInBounds_toArray, List.set_cons_zero, List.set_cons_succ, i64_w, i32_w]
                           rfl
                          refine pure_ (i := 36) (N := some 157) (v := ?_) (a' := ?_) quoinlaw03_EncAlone.m37 rfl rfl (any_of HT_.out (by kernel_rfl)) (fun _ _ _ h => h) (Or.inl ⟨by rfl, ?_⟩) ?_ ?_; rotate_left; · intro w'; go_simp; with_reducible rfl
                          rotate_left; · simp only [Act.put, List.setIfInBounds_toArray, List.set_cons_zero, List.set_cons_succ, i64_w, i32_w]; rfl
                          refine pure_ (i := 37) (N := some 158) (v := ?_) (a' := ?_) quoinlaw03_EncAlone.m38 rfl rfl (any_of HT_.out (by kernel_rfl)) (fun _ _ _ h => h) (Or.inl ⟨by rfl, ?_⟩) ?_ ?_; rotate_left; · intro w'; go_simp; with_reducible rfl
                          rotate_left; · simp only [Act.put, List.setIfInBounds_toArray, List.set_cons_zero, List.set_cons_succ, i64_w, i32_w]; rfl
                          refine pure_ (i := 38) (N := some 159) (v := ?_) (a' := ?_) quoinlaw03_EncAlone.m39 rfl rfl (any_of HT_.out (by kernel_rfl)) (fun _ _ _ h => h) (Or.inl ⟨by rfl, ?_⟩) ?_ ?_; rotate_left; · intro w'; go_simp; with_reducible rfl
                          rotate_left; · simp only [Act.put, List.setIfInBounds_toArray, List.set_cons_zero, List.set_cons_succ, i64_w, i32_w]; rfl
                          refine done_ (done_of HT_.out (by kernel_rfl)) ?_
                          try go_wp2_with (first | ((with_reducible refine gate_callee (f := 54) rfl ?_); refine goesL_ (some 163) rfl rfl Tryd.func54 (by kernel_rfl) rfl #[.int .u32 t802, .slice Ao37 t798.length co37] rfl (by (try simp only [List.map_toArray, List.map_cons, List.map_nil]); first | done | rfl | (simp only [List.length_drop, List.length_take]; rfl)) ?_; (with_reducible refine (bits_Scatter.calls kj47 t802 _ _ t798 t825 t826 _ ?side1 ?side2 A119.out).mono ?_); (case side1 => repeat (first | exact (Kd.R_reads' HO_14.out).2.2 | (with_reducible refine Kd.C_alloc ?_ _) | (with_reducible refine Kd.C_drewN ?_ _) | (with_reducible refine Kd.C_drew ?_))); (case side2 => exact (Kd.R_reads' HO_14.out).2.1); rintro e w' ⟨rfl, ⟨nd, rfl⟩⟩; refine ⟨_, rfl, ?_⟩; have hnb123 := NB786_787.out; have hnc123 := NB787_786.out; have hcz124_0 : w122.cell? ⟨gb786, 0, none⟩ = some (.int .u8 a0_0) := (blk_cell BK786.out 0).trans rfl; have hcz124_1 : w122.cell? ⟨gb786, 1, none⟩ = some (.int .i64 a0_1) := (blk_cell BK786.out 1).trans rfl; have hcz124_2 : w122.cell? ⟨gb786, 2, none⟩ = some (.int .i64 a0_2) := (blk_cell BK786.out 2).trans rfl; have hcz124_3 : w122.cell? ⟨gb786, 3, none⟩ = some (.int .i64 a0_3) := (blk_cell BK786.out 3).trans rfl; have hcz124_4 : w122.cell? ⟨gb786, 4, none⟩ = some (.int .i64 a0_4) := (blk_cell BK786.out 4).trans rfl; have hfz124_0 := blk_frozen BK786.out 0; have hfz124_1 := blk_frozen BK786.out 1; have hfz124_2 := blk_frozen BK786.out 2; have hfz124_3 := blk_frozen BK786.out 3; have hfz124_4 := blk_frozen BK786.out 4))
                          go_ret
                          exact ⟨by first | rfl | (simp [errW_none, errW_some] <;> rfl) | (simp [*, errW_none, errW_some] <;> rfl), by repeat (first | (with_reducible first | exact HB.out | apply below_alloc | apply pw_below_drewN | apply below_drew1 | refine below_set ?_ GE786.out | refine below_set ?_ GE787.out) | exact HB.out)⟩
                        ·rw [if_neg c121] at H
                         exact absurd H (by simp)
                       ·rw [if_neg c120] at H
                        exact absurd H (by simp)
                      ·rw [if_neg c118] at H
                       exact absurd H (by simp)
                    ·rw [if_neg c109] at H
                     have c109b0 : (t821 == a0_2) = false := beq_eq_false_iff_ne.mpr c109
                     have c109b1 : (t821 != a0_2) = true := bne_iff_ne.mpr c109
                     exact absurd H (by simp)
                  ·rw [if_neg c91] at H
                   have c91b0 : (t815 == a0_1) = false := beq_eq_false_iff_ne.mpr c91
                   have c91b1 : (t815 != a0_1) = true := bne_iff_ne.mpr c91
                   exact absurd H (by simp)
                ·rw [if_neg c55] at H
                 have c55b0 : (t802 == x19_47) = false := beq_eq_false_iff_ne.mpr c55
                 have c55b1 : (t802 != x19_47) = true := bne_iff_ne.mpr c55
                 exact absurd H (by simp)

end Go.Proofs.YtpijiohiohiilaaDoor.D
