/-
  NARROWER THAN 'FOR EVERY INPUT', by the rows' own cells (each row's printed sentence says how): InsnAlone: laid · InsnAll: laid · DecBack: laid · DecFixed: laid · LiNames: laid · LiMakes: laid · LiParts: laid · InsnTells: laid · InsnLess: laid · InsnNames: laid · LiShort: laid · LiHas: laid · EncNames: laid · EncTells: laid · DecNames: laid · DecTells: laid · EncAlone: laid.
  DERIVED. THE GIVEN ROWS OF THIS SEAT. 17 by the template 'for every input the law returns true; each argument reads behind the call as it read before'; 0 by the template 'total and deterministic' (their statements: YtpijiohiohiilaaDoorTotals.lean).
  GIVEN WITH THE SEED: the statements are not yours to turn. If you find one false, say at which input.
  Laid BY PROGRAM, IN A SANDBOX (cutbox-rows.mjs): the forced cells as the released guide's own fill.sh prints them over the translation 851dd71aa92f546c… (all of the seat's roots in one cut). By AI agents, Wed Nov 11 2026. No macro, syntax, notation, axiom, sorry.
-/
import Derived.Test.YtpijiohiohiilaaDoorChecked
import GoSem.Claim
import GoSem.ClaimJoined
import GoSem.ClaimMapViews
import Derived.JoinedTies
import Derived.KernelRfl
namespace Go.Proofs.YtpijiohiohiilaaDoor
/- THE CELL 'sum', in the pinned program and in every row, IS THE sha256 OF THE DUMP (.gsa) THAT YtpijiohiohiilaaDoorProg.lean LOADS. Nothing in Lean hashes anything: it is a label: what it is worth is what the hold of that sum in a sandbox is worth. -/
noncomputable def Tryd.pinned : Pinned := { name := "ytpijiohiohiilaadoor", sum := "851dd71aa92f546c98a84645bd369304d0e9e2b3c0d0dae48fd5d0f9c1e88896", checked := Tryd.checked }
namespace Rows
def none {H : Type} : Left H := { results := [], args := [] }

/- WHAT THE LISTED PACKAGE-LEVEL VARIABLES READ AS WHEN THE CALL BEGINS. Each datum BY PROGRAM (the guide's laid-datum.mjs) off the statement by which the dump's own 'gosem.cut.vars' lays the variable. In a bare row this is a premise. The card (YtpijiohiohiilaaDoorCards.lean) ties it to the program's text. -/
def laid_quoin_insn_names {H : Type} : DataW H := .agg [.lit (.string [108, 117, 105]), .lit (.string [97, 117, 105, 112, 99]), .lit (.string [106, 97, 108]), .lit (.string [106, 97, 108, 114]), .lit (.string [98, 101, 113]), .lit (.string [98, 110, 101]), .lit (.string [98, 108, 116]), .lit (.string [98, 103, 101]), .lit (.string [98, 108, 116, 117]), .lit (.string [98, 103, 101, 117]), .lit (.string [108, 98]), .lit (.string [108, 104]), .lit (.string [108, 119]), .lit (.string [108, 100]), .lit (.string [108, 98, 117]), .lit (.string [108, 104, 117]), .lit (.string [108, 119, 117]), .lit (.string [115, 98]), .lit (.string [115, 104]), .lit (.string [115, 119]), .lit (.string [115, 100]), .lit (.string [97, 100, 100, 105]), .lit (.string [115, 108, 116, 105]), .lit (.string [115, 108, 116, 105, 117]), .lit (.string [120, 111, 114, 105]), .lit (.string [111, 114, 105]), .lit (.string [97, 110, 100, 105]), .lit (.string [115, 108, 108, 105]), .lit (.string [115, 114, 108, 105]), .lit (.string [115, 114, 97, 105]), .lit (.string [97, 100, 100]), .lit (.string [115, 117, 98]), .lit (.string [115, 108, 108]), .lit (.string [115, 108, 116]), .lit (.string [115, 108, 116, 117]), .lit (.string [120, 111, 114]), .lit (.string [115, 114, 108]), .lit (.string [115, 114, 97]), .lit (.string [111, 114]), .lit (.string [97, 110, 100]), .lit (.string [97, 100, 100, 105, 119]), .lit (.string [115, 108, 108, 105, 119]), .lit (.string [115, 114, 108, 105, 119]), .lit (.string [115, 114, 97, 105, 119]), .lit (.string [97, 100, 100, 119]), .lit (.string [115, 117, 98, 119]), .lit (.string [115, 108, 108, 119]), .lit (.string [115, 114, 108, 119]), .lit (.string [115, 114, 97, 119]), .lit (.string [109, 117, 108]), .lit (.string [109, 117, 108, 104]), .lit (.string [109, 117, 108, 104, 115, 117]), .lit (.string [109, 117, 108, 104, 117]), .lit (.string [100, 105, 118]), .lit (.string [100, 105, 118, 117]), .lit (.string [114, 101, 109]), .lit (.string [114, 101, 109, 117]), .lit (.string [109, 117, 108, 119]), .lit (.string [100, 105, 118, 119]), .lit (.string [100, 105, 118, 117, 119]), .lit (.string [114, 101, 109, 119]), .lit (.string [114, 101, 109, 117, 119]), .lit (.string [102, 101, 110, 99, 101]), .lit (.string [102, 101, 110, 99, 101, 46, 105]), .lit (.string [101, 99, 97, 108, 108]), .lit (.string [101, 98, 114, 101, 97, 107]), .lit (.string [99, 115, 114, 114, 119]), .lit (.string [99, 115, 114, 114, 115]), .lit (.string [99, 115, 114, 114, 99]), .lit (.string [99, 115, 114, 114, 119, 105]), .lit (.string [99, 115, 114, 114, 115, 105]), .lit (.string [99, 115, 114, 114, 99, 105]), .lit (.string [108, 114, 46, 119]), .lit (.string [115, 99, 46, 119]), .lit (.string [97, 109, 111, 115, 119, 97, 112, 46, 119]), .lit (.string [97, 109, 111, 97, 100, 100, 46, 119]), .lit (.string [97, 109, 111, 120, 111, 114, 46, 119]), .lit (.string [97, 109, 111, 97, 110, 100, 46, 119]), .lit (.string [97, 109, 111, 111, 114, 46, 119]), .lit (.string [97, 109, 111, 109, 105, 110, 46, 119]), .lit (.string [97, 109, 111, 109, 97, 120, 46, 119]), .lit (.string [97, 109, 111, 109, 105, 110, 117, 46, 119]), .lit (.string [97, 109, 111, 109, 97, 120, 117, 46, 119]), .lit (.string [108, 114, 46, 100]), .lit (.string [115, 99, 46, 100]), .lit (.string [97, 109, 111, 115, 119, 97, 112, 46, 100]), .lit (.string [97, 109, 111, 97, 100, 100, 46, 100]), .lit (.string [97, 109, 111, 120, 111, 114, 46, 100]), .lit (.string [97, 109, 111, 97, 110, 100, 46, 100]), .lit (.string [97, 109, 111, 111, 114, 46, 100]), .lit (.string [97, 109, 111, 109, 105, 110, 46, 100]), .lit (.string [97, 109, 111, 109, 97, 120, 46, 100]), .lit (.string [97, 109, 111, 109, 105, 110, 117, 46, 100]), .lit (.string [97, 109, 111, 109, 97, 120, 117, 46, 100])]
def laid_quoin_enc_bases {H : Type} : DataW H := .agg [.lit (.int .u32 55), .lit (.int .u32 23), .lit (.int .u32 111), .lit (.int .u32 103), .lit (.int .u32 99), .lit (.int .u32 4195), .lit (.int .u32 16483), .lit (.int .u32 20579), .lit (.int .u32 24675), .lit (.int .u32 28771), .lit (.int .u32 3), .lit (.int .u32 4099), .lit (.int .u32 8195), .lit (.int .u32 12291), .lit (.int .u32 16387), .lit (.int .u32 20483), .lit (.int .u32 24579), .lit (.int .u32 35), .lit (.int .u32 4131), .lit (.int .u32 8227), .lit (.int .u32 12323), .lit (.int .u32 19), .lit (.int .u32 8211), .lit (.int .u32 12307), .lit (.int .u32 16403), .lit (.int .u32 24595), .lit (.int .u32 28691), .lit (.int .u32 4115), .lit (.int .u32 20499), .lit (.int .u32 1073762323), .lit (.int .u32 51), .lit (.int .u32 1073741875), .lit (.int .u32 4147), .lit (.int .u32 8243), .lit (.int .u32 12339), .lit (.int .u32 16435), .lit (.int .u32 20531), .lit (.int .u32 1073762355), .lit (.int .u32 24627), .lit (.int .u32 28723), .lit (.int .u32 27), .lit (.int .u32 4123), .lit (.int .u32 20507), .lit (.int .u32 1073762331), .lit (.int .u32 59), .lit (.int .u32 1073741883), .lit (.int .u32 4155), .lit (.int .u32 20539), .lit (.int .u32 1073762363), .lit (.int .u32 33554483), .lit (.int .u32 33558579), .lit (.int .u32 33562675), .lit (.int .u32 33566771), .lit (.int .u32 33570867), .lit (.int .u32 33574963), .lit (.int .u32 33579059), .lit (.int .u32 33583155), .lit (.int .u32 33554491), .lit (.int .u32 33570875), .lit (.int .u32 33574971), .lit (.int .u32 33579067), .lit (.int .u32 33583163), .lit (.int .u32 15), .lit (.int .u32 4111), .lit (.int .u32 115), .lit (.int .u32 1048691), .lit (.int .u32 4211), .lit (.int .u32 8307), .lit (.int .u32 12403), .lit (.int .u32 20595), .lit (.int .u32 24691), .lit (.int .u32 28787), .lit (.int .u32 268443695), .lit (.int .u32 402661423), .lit (.int .u32 134225967), .lit (.int .u32 8239), .lit (.int .u32 536879151), .lit (.int .u32 1610620975), .lit (.int .u32 1073750063), .lit (.int .u32 2147491887), .lit (.int .u32 2684362799), .lit (.int .u32 3221233711), .lit (.int .u32 3758104623), .lit (.int .u32 268447791), .lit (.int .u32 402665519), .lit (.int .u32 134230063), .lit (.int .u32 12335), .lit (.int .u32 536883247), .lit (.int .u32 1610625071), .lit (.int .u32 1073754159), .lit (.int .u32 2147495983), .lit (.int .u32 2684366895), .lit (.int .u32 3221237807), .lit (.int .u32 3758108719)]

/-- 'quoinlaw02.InsnAlone': WHATEVER THE INPUT: true; the input reads as it did. -/
def insnAloneSpec : ChangeSpec := { name := "insnAlone", fn := fun _ => fun
  | [d1, d2] => { results := [.lit (.bool true)], args := [d1, d2] }
  | _ => none }
def insnAloneRow : OpenClaim := { program := "ytpijiohiohiilaadoor", sum := "851dd71aa92f546c98a84645bd369304d0e9e2b3c0d0dae48fd5d0f9c1e88896", func := "quoin/quoinlaw02.InsnAlone", spec := "insnAlone", named := ["quoin/insn.names"], apart := false, laid := [("quoin/insn.names", laid_quoin_insn_names)] }
def InsnAloneSaid : Prop := insnAloneRow.holds Tryd.pinned (OpenSpec.ofChange insnAloneSpec)

/-- ITS FALSE NEIGHBOUR: 'it returns false'. Refute it at one input. -/
def insnAloneWrong : ChangeSpec := { name := "insnAlone", fn := fun _ => fun
  | [d1, d2] => { results := [.lit (.bool false)], args := [d1, d2] }
  | _ => none }
def InsnAloneWrongFalsely : Prop := insnAloneRow.holds Tryd.pinned (OpenSpec.ofChange insnAloneWrong)

/-- 'quoinlaw02.InsnAll': WHATEVER THE INPUT: true; the input reads as it did. -/
def insnAllSpec : ChangeSpec := { name := "insnAll", fn := fun _ => fun
  | [d] => { results := [.lit (.bool true)], args := [d] }
  | _ => none }
def insnAllRow : OpenClaim := { program := "ytpijiohiohiilaadoor", sum := "851dd71aa92f546c98a84645bd369304d0e9e2b3c0d0dae48fd5d0f9c1e88896", func := "quoin/quoinlaw02.InsnAll", spec := "insnAll", named := ["quoin/insn.names"], apart := false, laid := [("quoin/insn.names", laid_quoin_insn_names)] }
def InsnAllSaid : Prop := insnAllRow.holds Tryd.pinned (OpenSpec.ofChange insnAllSpec)

/-- ITS FALSE NEIGHBOUR: 'it returns false'. Refute it at one input. -/
def insnAllWrong : ChangeSpec := { name := "insnAll", fn := fun _ => fun
  | [d] => { results := [.lit (.bool false)], args := [d] }
  | _ => none }
def InsnAllWrongFalsely : Prop := insnAllRow.holds Tryd.pinned (OpenSpec.ofChange insnAllWrong)

/-- 'quoinlaw04.DecBack': WHATEVER THE INPUT: true; the input reads as it did. -/
def decBackSpec : ChangeSpec := { name := "decBack", fn := fun _ => fun
  | [d1, d2] => { results := [.lit (.bool true)], args := [d1, d2] }
  | _ => none }
def decBackRow : OpenClaim := { program := "ytpijiohiohiilaadoor", sum := "851dd71aa92f546c98a84645bd369304d0e9e2b3c0d0dae48fd5d0f9c1e88896", func := "quoin/quoinlaw04.DecBack", spec := "decBack", named := ["quoin/enc.bases"], apart := false, laid := [("quoin/enc.bases", laid_quoin_enc_bases)] }
def DecBackSaid : Prop := decBackRow.holds Tryd.pinned (OpenSpec.ofChange decBackSpec)

/-- ITS FALSE NEIGHBOUR: 'it returns false'. Refute it at one input. -/
def decBackWrong : ChangeSpec := { name := "decBack", fn := fun _ => fun
  | [d1, d2] => { results := [.lit (.bool false)], args := [d1, d2] }
  | _ => none }
def DecBackWrongFalsely : Prop := decBackRow.holds Tryd.pinned (OpenSpec.ofChange decBackWrong)

/-- 'quoinlaw04.DecFixed': WHATEVER THE INPUT: true; the input reads as it did. -/
def decFixedSpec : ChangeSpec := { name := "decFixed", fn := fun _ => fun
  | [d1, d2] => { results := [.lit (.bool true)], args := [d1, d2] }
  | _ => none }
def decFixedRow : OpenClaim := { program := "ytpijiohiohiilaadoor", sum := "851dd71aa92f546c98a84645bd369304d0e9e2b3c0d0dae48fd5d0f9c1e88896", func := "quoin/quoinlaw04.DecFixed", spec := "decFixed", named := ["quoin/enc.bases"], apart := false, laid := [("quoin/enc.bases", laid_quoin_enc_bases)] }
def DecFixedSaid : Prop := decFixedRow.holds Tryd.pinned (OpenSpec.ofChange decFixedSpec)

/-- ITS FALSE NEIGHBOUR: 'it returns false'. Refute it at one input. -/
def decFixedWrong : ChangeSpec := { name := "decFixed", fn := fun _ => fun
  | [d1, d2] => { results := [.lit (.bool false)], args := [d1, d2] }
  | _ => none }
def DecFixedWrongFalsely : Prop := decFixedRow.holds Tryd.pinned (OpenSpec.ofChange decFixedWrong)

/-- 'quoinlaw18.LiNames': WHATEVER THE INPUT: true; the input reads as it did. -/
def liNamesSpec : ChangeSpec := { name := "liNames", fn := fun _ => fun
  | [] => { results := [.lit (.bool true)], args := [] }
  | _ => none }
def liNamesRow : OpenClaim := { program := "ytpijiohiohiilaadoor", sum := "851dd71aa92f546c98a84645bd369304d0e9e2b3c0d0dae48fd5d0f9c1e88896", func := "quoin/quoinlaw18.LiNames", spec := "liNames", unfollowed := true, recurses := true, named := ["quoin/insn.names"], apart := false, laid := [("quoin/insn.names", laid_quoin_insn_names)] }
def LiNamesSaid : Prop := liNamesRow.holds Tryd.pinned (OpenSpec.ofChange liNamesSpec)

/-- ITS FALSE NEIGHBOUR: 'it returns false'. Refute it at one input. -/
def liNamesWrong : ChangeSpec := { name := "liNames", fn := fun _ => fun
  | [] => { results := [.lit (.bool false)], args := [] }
  | _ => none }
def LiNamesWrongFalsely : Prop := liNamesRow.holds Tryd.pinned (OpenSpec.ofChange liNamesWrong)

/-- 'quoinlaw18.LiMakes': WHATEVER THE INPUT: true; the input reads as it did. -/
def liMakesSpec : ChangeSpec := { name := "liMakes", fn := fun _ => fun
  | [d1, d2] => { results := [.lit (.bool true)], args := [d1, d2] }
  | _ => none }
def liMakesRow : OpenClaim := { program := "ytpijiohiohiilaadoor", sum := "851dd71aa92f546c98a84645bd369304d0e9e2b3c0d0dae48fd5d0f9c1e88896", func := "quoin/quoinlaw18.LiMakes", spec := "liMakes", unfollowed := true, recurses := true, named := ["quoin/insn.names"], apart := false, laid := [("quoin/insn.names", laid_quoin_insn_names)] }
def LiMakesSaid : Prop := liMakesRow.holds Tryd.pinned (OpenSpec.ofChange liMakesSpec)

/-- ITS FALSE NEIGHBOUR: 'it returns false'. Refute it at one input. -/
def liMakesWrong : ChangeSpec := { name := "liMakes", fn := fun _ => fun
  | [d1, d2] => { results := [.lit (.bool false)], args := [d1, d2] }
  | _ => none }
def LiMakesWrongFalsely : Prop := liMakesRow.holds Tryd.pinned (OpenSpec.ofChange liMakesWrong)

/-- 'quoinlaw18.LiParts': WHATEVER THE INPUT: true; the input reads as it did. -/
def liPartsSpec : ChangeSpec := { name := "liParts", fn := fun _ => fun
  | [d] => { results := [.lit (.bool true)], args := [d] }
  | _ => none }
def liPartsRow : OpenClaim := { program := "ytpijiohiohiilaadoor", sum := "851dd71aa92f546c98a84645bd369304d0e9e2b3c0d0dae48fd5d0f9c1e88896", func := "quoin/quoinlaw18.LiParts", spec := "liParts", unfollowed := true, recurses := true, named := ["quoin/insn.names"], apart := false, laid := [("quoin/insn.names", laid_quoin_insn_names)] }
def LiPartsSaid : Prop := liPartsRow.holds Tryd.pinned (OpenSpec.ofChange liPartsSpec)

/-- ITS FALSE NEIGHBOUR: 'it returns false'. Refute it at one input. -/
def liPartsWrong : ChangeSpec := { name := "liParts", fn := fun _ => fun
  | [d] => { results := [.lit (.bool false)], args := [d] }
  | _ => none }
def LiPartsWrongFalsely : Prop := liPartsRow.holds Tryd.pinned (OpenSpec.ofChange liPartsWrong)

/-- 'quoinlaw02.InsnTells': WHATEVER THE INPUT: true; the input reads as it did. -/
def insnTellsSpec : ChangeSpec := { name := "insnTells", fn := fun _ => fun
  | [d1, d2, d3] => { results := [.lit (.bool true)], args := [d1, d2, d3] }
  | _ => none }
def insnTellsRow : OpenClaim := { program := "ytpijiohiohiilaadoor", sum := "851dd71aa92f546c98a84645bd369304d0e9e2b3c0d0dae48fd5d0f9c1e88896", func := "quoin/quoinlaw02.InsnTells", spec := "insnTells", named := ["quoin/insn.names"], apart := false, laid := [("quoin/insn.names", laid_quoin_insn_names)] }
def InsnTellsSaid : Prop := insnTellsRow.holds Tryd.pinned (OpenSpec.ofChange insnTellsSpec)

/-- ITS FALSE NEIGHBOUR: 'it returns false'. Refute it at one input. -/
def insnTellsWrong : ChangeSpec := { name := "insnTells", fn := fun _ => fun
  | [d1, d2, d3] => { results := [.lit (.bool false)], args := [d1, d2, d3] }
  | _ => none }
def InsnTellsWrongFalsely : Prop := insnTellsRow.holds Tryd.pinned (OpenSpec.ofChange insnTellsWrong)

/-- 'quoinlaw02.InsnLess': WHATEVER THE INPUT: true; the input reads as it did. -/
def insnLessSpec : ChangeSpec := { name := "insnLess", fn := fun _ => fun
  | [d1, d2, d3, d4] => { results := [.lit (.bool true)], args := [d1, d2, d3, d4] }
  | _ => none }
def insnLessRow : OpenClaim := { program := "ytpijiohiohiilaadoor", sum := "851dd71aa92f546c98a84645bd369304d0e9e2b3c0d0dae48fd5d0f9c1e88896", func := "quoin/quoinlaw02.InsnLess", spec := "insnLess", named := ["quoin/insn.names"], apart := false, laid := [("quoin/insn.names", laid_quoin_insn_names)] }
def InsnLessSaid : Prop := insnLessRow.holds Tryd.pinned (OpenSpec.ofChange insnLessSpec)

/-- ITS FALSE NEIGHBOUR: 'it returns false'. Refute it at one input. -/
def insnLessWrong : ChangeSpec := { name := "insnLess", fn := fun _ => fun
  | [d1, d2, d3, d4] => { results := [.lit (.bool false)], args := [d1, d2, d3, d4] }
  | _ => none }
def InsnLessWrongFalsely : Prop := insnLessRow.holds Tryd.pinned (OpenSpec.ofChange insnLessWrong)

/-- 'quoinlaw02.InsnNames': WHATEVER THE INPUT: true; the input reads as it did. -/
def insnNamesSpec : ChangeSpec := { name := "insnNames", fn := fun _ => fun
  | [] => { results := [.lit (.bool true)], args := [] }
  | _ => none }
def insnNamesRow : OpenClaim := { program := "ytpijiohiohiilaadoor", sum := "851dd71aa92f546c98a84645bd369304d0e9e2b3c0d0dae48fd5d0f9c1e88896", func := "quoin/quoinlaw02.InsnNames", spec := "insnNames", named := ["quoin/insn.names"], apart := false, laid := [("quoin/insn.names", laid_quoin_insn_names)] }
def InsnNamesSaid : Prop := insnNamesRow.holds Tryd.pinned (OpenSpec.ofChange insnNamesSpec)

/-- ITS FALSE NEIGHBOUR: 'it returns false'. Refute it at one input. -/
def insnNamesWrong : ChangeSpec := { name := "insnNames", fn := fun _ => fun
  | [] => { results := [.lit (.bool false)], args := [] }
  | _ => none }
def InsnNamesWrongFalsely : Prop := insnNamesRow.holds Tryd.pinned (OpenSpec.ofChange insnNamesWrong)

/-- 'quoinlaw18.LiShort': WHATEVER THE INPUT: true; the input reads as it did. -/
def liShortSpec : ChangeSpec := { name := "liShort", fn := fun _ => fun
  | [d1, d2] => { results := [.lit (.bool true)], args := [d1, d2] }
  | _ => none }
def liShortRow : OpenClaim := { program := "ytpijiohiohiilaadoor", sum := "851dd71aa92f546c98a84645bd369304d0e9e2b3c0d0dae48fd5d0f9c1e88896", func := "quoin/quoinlaw18.LiShort", spec := "liShort", unfollowed := true, recurses := true, named := ["quoin/insn.names"], apart := false, laid := [("quoin/insn.names", laid_quoin_insn_names)] }
def LiShortSaid : Prop := liShortRow.holds Tryd.pinned (OpenSpec.ofChange liShortSpec)

/-- ITS FALSE NEIGHBOUR: 'it returns false'. Refute it at one input. -/
def liShortWrong : ChangeSpec := { name := "liShort", fn := fun _ => fun
  | [d1, d2] => { results := [.lit (.bool false)], args := [d1, d2] }
  | _ => none }
def LiShortWrongFalsely : Prop := liShortRow.holds Tryd.pinned (OpenSpec.ofChange liShortWrong)

/-- 'quoinlaw18.LiHas': WHATEVER THE INPUT: true; the input reads as it did. -/
def liHasSpec : ChangeSpec := { name := "liHas", fn := fun _ => fun
  | [d1, d2, d3] => { results := [.lit (.bool true)], args := [d1, d2, d3] }
  | _ => none }
def liHasRow : OpenClaim := { program := "ytpijiohiohiilaadoor", sum := "851dd71aa92f546c98a84645bd369304d0e9e2b3c0d0dae48fd5d0f9c1e88896", func := "quoin/quoinlaw18.LiHas", spec := "liHas", unfollowed := true, recurses := true, named := ["quoin/insn.names"], apart := false, laid := [("quoin/insn.names", laid_quoin_insn_names)] }
def LiHasSaid : Prop := liHasRow.holds Tryd.pinned (OpenSpec.ofChange liHasSpec)

/-- ITS FALSE NEIGHBOUR: 'it returns false'. Refute it at one input. -/
def liHasWrong : ChangeSpec := { name := "liHas", fn := fun _ => fun
  | [d1, d2, d3] => { results := [.lit (.bool false)], args := [d1, d2, d3] }
  | _ => none }
def LiHasWrongFalsely : Prop := liHasRow.holds Tryd.pinned (OpenSpec.ofChange liHasWrong)

/-- 'quoinlaw03.EncNames': WHATEVER THE INPUT: true; the input reads as it did. -/
def encNamesSpec : ChangeSpec := { name := "encNames", fn := fun _ => fun
  | [] => { results := [.lit (.bool true)], args := [] }
  | _ => none }
def encNamesRow : OpenClaim := { program := "ytpijiohiohiilaadoor", sum := "851dd71aa92f546c98a84645bd369304d0e9e2b3c0d0dae48fd5d0f9c1e88896", func := "quoin/quoinlaw03.EncNames", spec := "encNames", named := ["quoin/enc.bases"], apart := false, laid := [("quoin/enc.bases", laid_quoin_enc_bases)] }
def EncNamesSaid : Prop := encNamesRow.holds Tryd.pinned (OpenSpec.ofChange encNamesSpec)

/-- ITS FALSE NEIGHBOUR: 'it returns false'. Refute it at one input. -/
def encNamesWrong : ChangeSpec := { name := "encNames", fn := fun _ => fun
  | [] => { results := [.lit (.bool false)], args := [] }
  | _ => none }
def EncNamesWrongFalsely : Prop := encNamesRow.holds Tryd.pinned (OpenSpec.ofChange encNamesWrong)

/-- 'quoinlaw03.EncTells': WHATEVER THE INPUT: true; the input reads as it did. -/
def encTellsSpec : ChangeSpec := { name := "encTells", fn := fun _ => fun
  | [d1, d2, d3] => { results := [.lit (.bool true)], args := [d1, d2, d3] }
  | _ => none }
def encTellsRow : OpenClaim := { program := "ytpijiohiohiilaadoor", sum := "851dd71aa92f546c98a84645bd369304d0e9e2b3c0d0dae48fd5d0f9c1e88896", func := "quoin/quoinlaw03.EncTells", spec := "encTells", named := ["quoin/enc.bases"], apart := false, laid := [("quoin/enc.bases", laid_quoin_enc_bases)] }
def EncTellsSaid : Prop := encTellsRow.holds Tryd.pinned (OpenSpec.ofChange encTellsSpec)

/-- ITS FALSE NEIGHBOUR: 'it returns false'. Refute it at one input. -/
def encTellsWrong : ChangeSpec := { name := "encTells", fn := fun _ => fun
  | [d1, d2, d3] => { results := [.lit (.bool false)], args := [d1, d2, d3] }
  | _ => none }
def EncTellsWrongFalsely : Prop := encTellsRow.holds Tryd.pinned (OpenSpec.ofChange encTellsWrong)

/-- 'quoinlaw04.DecNames': WHATEVER THE INPUT: true; the input reads as it did. -/
def decNamesSpec : ChangeSpec := { name := "decNames", fn := fun _ => fun
  | [] => { results := [.lit (.bool true)], args := [] }
  | _ => none }
def decNamesRow : OpenClaim := { program := "ytpijiohiohiilaadoor", sum := "851dd71aa92f546c98a84645bd369304d0e9e2b3c0d0dae48fd5d0f9c1e88896", func := "quoin/quoinlaw04.DecNames", spec := "decNames", named := ["quoin/enc.bases"], apart := false, laid := [("quoin/enc.bases", laid_quoin_enc_bases)] }
def DecNamesSaid : Prop := decNamesRow.holds Tryd.pinned (OpenSpec.ofChange decNamesSpec)

/-- ITS FALSE NEIGHBOUR: 'it returns false'. Refute it at one input. -/
def decNamesWrong : ChangeSpec := { name := "decNames", fn := fun _ => fun
  | [] => { results := [.lit (.bool false)], args := [] }
  | _ => none }
def DecNamesWrongFalsely : Prop := decNamesRow.holds Tryd.pinned (OpenSpec.ofChange decNamesWrong)

/-- 'quoinlaw04.DecTells': WHATEVER THE INPUT: true; the input reads as it did. -/
def decTellsSpec : ChangeSpec := { name := "decTells", fn := fun _ => fun
  | [d1, d2] => { results := [.lit (.bool true)], args := [d1, d2] }
  | _ => none }
def decTellsRow : OpenClaim := { program := "ytpijiohiohiilaadoor", sum := "851dd71aa92f546c98a84645bd369304d0e9e2b3c0d0dae48fd5d0f9c1e88896", func := "quoin/quoinlaw04.DecTells", spec := "decTells", named := ["quoin/enc.bases"], apart := false, laid := [("quoin/enc.bases", laid_quoin_enc_bases)] }
def DecTellsSaid : Prop := decTellsRow.holds Tryd.pinned (OpenSpec.ofChange decTellsSpec)

/-- ITS FALSE NEIGHBOUR: 'it returns false'. Refute it at one input. -/
def decTellsWrong : ChangeSpec := { name := "decTells", fn := fun _ => fun
  | [d1, d2] => { results := [.lit (.bool false)], args := [d1, d2] }
  | _ => none }
def DecTellsWrongFalsely : Prop := decTellsRow.holds Tryd.pinned (OpenSpec.ofChange decTellsWrong)

/-- 'quoinlaw03.EncAlone': WHATEVER THE INPUT: true; the input reads as it did. -/
def encAloneSpec : ChangeSpec := { name := "encAlone", fn := fun _ => fun
  | [d1, d2] => { results := [.lit (.bool true)], args := [d1, d2] }
  | _ => none }
def encAloneRow : OpenClaim := { program := "ytpijiohiohiilaadoor", sum := "851dd71aa92f546c98a84645bd369304d0e9e2b3c0d0dae48fd5d0f9c1e88896", func := "quoin/quoinlaw03.EncAlone", spec := "encAlone", named := ["quoin/enc.bases"], apart := false, laid := [("quoin/enc.bases", laid_quoin_enc_bases)] }
def EncAloneSaid : Prop := encAloneRow.holds Tryd.pinned (OpenSpec.ofChange encAloneSpec)

/-- ITS FALSE NEIGHBOUR: 'it returns false'. Refute it at one input. -/
def encAloneWrong : ChangeSpec := { name := "encAlone", fn := fun _ => fun
  | [d1, d2] => { results := [.lit (.bool false)], args := [d1, d2] }
  | _ => none }
def EncAloneWrongFalsely : Prop := encAloneRow.holds Tryd.pinned (OpenSpec.ofChange encAloneWrong)

/- THE SECOND FORM. 'bulk': how many values and letters a reading holds, each counted each time it is reached (what is shared counts as often as it is met; a slice's spare places count too). A statement '..UptoSaid' is the law's where the arguments, and the package variables that the reading takes, are together of bulk at most 1048576: NARROWER than '..Said'. Prove '..Said' where nothing that the law and all that it calls make is longer than what came in: it says more and counts as full. Else prove '..UptoSaid'. A law counts once. -/
mutual
def uptoBulk {H : Type} : DataW H → Nat
  | .lit (.string bytes) => bytes.length + 1
  | .lit _ => 1
  | .nil => 1
  | .ptr d => uptoBulk d + 1
  | .slice elems spare => uptoBulkAll elems + uptoBulkAll spare + 1
  | .agg parts => uptoBulkAll parts + 1
  | .iface _ d => uptoBulk d + 1
  | .map entries => uptoBulkEntries entries + 1
  | .held _ => 1
def uptoBulkAll {H : Type} : List (DataW H) → Nat
  | [] => 0
  | d :: r => uptoBulk d + uptoBulkAll r
def uptoBulkEntries {H : Type} : List (Lit × DataW H) → Nat
  | [] => 0
  | x :: r => uptoBulkEntry x + uptoBulkEntries r
def uptoBulkEntry {H : Type} : Lit × DataW H → Nat
  | (.string bytes, d) => bytes.length + uptoBulk d + 1
  | (_, d) => uptoBulk d + 1
 end
def uptoSmall : (H : Type) → List (DataW H) → Bool := fun _ ds => decide (uptoBulkAll ds ≤ 1048576)
def OpenSpec.upto (s : _root_.Go.ChangeSpec) : _root_.Go.OpenSpec := { _root_.Go.OpenSpec.ofChange s with cond := some uptoSmall }

/-- 'quoinlaw02.InsnAlone', WHERE WHAT IT READS IS OF BULK AT MOST 1048576: true; the input reads as it did. -/
def insnAloneUptoRow : OpenClaim := { program := "ytpijiohiohiilaadoor", sum := "851dd71aa92f546c98a84645bd369304d0e9e2b3c0d0dae48fd5d0f9c1e88896", func := "quoin/quoinlaw02.InsnAlone", spec := "insnAlone", named := ["quoin/insn.names"], apart := false, laid := [("quoin/insn.names", laid_quoin_insn_names)], narrowed := true }
def InsnAloneUptoSaid : Prop := insnAloneUptoRow.holds Tryd.pinned (OpenSpec.upto insnAloneSpec)

/-- 'quoinlaw02.InsnAll', WHERE WHAT IT READS IS OF BULK AT MOST 1048576: true; the input reads as it did. -/
def insnAllUptoRow : OpenClaim := { program := "ytpijiohiohiilaadoor", sum := "851dd71aa92f546c98a84645bd369304d0e9e2b3c0d0dae48fd5d0f9c1e88896", func := "quoin/quoinlaw02.InsnAll", spec := "insnAll", named := ["quoin/insn.names"], apart := false, laid := [("quoin/insn.names", laid_quoin_insn_names)], narrowed := true }
def InsnAllUptoSaid : Prop := insnAllUptoRow.holds Tryd.pinned (OpenSpec.upto insnAllSpec)

/-- 'quoinlaw04.DecBack', WHERE WHAT IT READS IS OF BULK AT MOST 1048576: true; the input reads as it did. -/
def decBackUptoRow : OpenClaim := { program := "ytpijiohiohiilaadoor", sum := "851dd71aa92f546c98a84645bd369304d0e9e2b3c0d0dae48fd5d0f9c1e88896", func := "quoin/quoinlaw04.DecBack", spec := "decBack", named := ["quoin/enc.bases"], apart := false, laid := [("quoin/enc.bases", laid_quoin_enc_bases)], narrowed := true }
def DecBackUptoSaid : Prop := decBackUptoRow.holds Tryd.pinned (OpenSpec.upto decBackSpec)

/-- 'quoinlaw04.DecFixed', WHERE WHAT IT READS IS OF BULK AT MOST 1048576: true; the input reads as it did. -/
def decFixedUptoRow : OpenClaim := { program := "ytpijiohiohiilaadoor", sum := "851dd71aa92f546c98a84645bd369304d0e9e2b3c0d0dae48fd5d0f9c1e88896", func := "quoin/quoinlaw04.DecFixed", spec := "decFixed", named := ["quoin/enc.bases"], apart := false, laid := [("quoin/enc.bases", laid_quoin_enc_bases)], narrowed := true }
def DecFixedUptoSaid : Prop := decFixedUptoRow.holds Tryd.pinned (OpenSpec.upto decFixedSpec)

/-- 'quoinlaw18.LiNames', WHERE WHAT IT READS IS OF BULK AT MOST 1048576: true; the input reads as it did. -/
def liNamesUptoRow : OpenClaim := { program := "ytpijiohiohiilaadoor", sum := "851dd71aa92f546c98a84645bd369304d0e9e2b3c0d0dae48fd5d0f9c1e88896", func := "quoin/quoinlaw18.LiNames", spec := "liNames", unfollowed := true, recurses := true, named := ["quoin/insn.names"], apart := false, laid := [("quoin/insn.names", laid_quoin_insn_names)], narrowed := true }
def LiNamesUptoSaid : Prop := liNamesUptoRow.holds Tryd.pinned (OpenSpec.upto liNamesSpec)

/-- 'quoinlaw18.LiMakes', WHERE WHAT IT READS IS OF BULK AT MOST 1048576: true; the input reads as it did. -/
def liMakesUptoRow : OpenClaim := { program := "ytpijiohiohiilaadoor", sum := "851dd71aa92f546c98a84645bd369304d0e9e2b3c0d0dae48fd5d0f9c1e88896", func := "quoin/quoinlaw18.LiMakes", spec := "liMakes", unfollowed := true, recurses := true, named := ["quoin/insn.names"], apart := false, laid := [("quoin/insn.names", laid_quoin_insn_names)], narrowed := true }
def LiMakesUptoSaid : Prop := liMakesUptoRow.holds Tryd.pinned (OpenSpec.upto liMakesSpec)

/-- 'quoinlaw18.LiParts', WHERE WHAT IT READS IS OF BULK AT MOST 1048576: true; the input reads as it did. -/
def liPartsUptoRow : OpenClaim := { program := "ytpijiohiohiilaadoor", sum := "851dd71aa92f546c98a84645bd369304d0e9e2b3c0d0dae48fd5d0f9c1e88896", func := "quoin/quoinlaw18.LiParts", spec := "liParts", unfollowed := true, recurses := true, named := ["quoin/insn.names"], apart := false, laid := [("quoin/insn.names", laid_quoin_insn_names)], narrowed := true }
def LiPartsUptoSaid : Prop := liPartsUptoRow.holds Tryd.pinned (OpenSpec.upto liPartsSpec)

/-- 'quoinlaw02.InsnTells', WHERE WHAT IT READS IS OF BULK AT MOST 1048576: true; the input reads as it did. -/
def insnTellsUptoRow : OpenClaim := { program := "ytpijiohiohiilaadoor", sum := "851dd71aa92f546c98a84645bd369304d0e9e2b3c0d0dae48fd5d0f9c1e88896", func := "quoin/quoinlaw02.InsnTells", spec := "insnTells", named := ["quoin/insn.names"], apart := false, laid := [("quoin/insn.names", laid_quoin_insn_names)], narrowed := true }
def InsnTellsUptoSaid : Prop := insnTellsUptoRow.holds Tryd.pinned (OpenSpec.upto insnTellsSpec)

/-- 'quoinlaw02.InsnLess', WHERE WHAT IT READS IS OF BULK AT MOST 1048576: true; the input reads as it did. -/
def insnLessUptoRow : OpenClaim := { program := "ytpijiohiohiilaadoor", sum := "851dd71aa92f546c98a84645bd369304d0e9e2b3c0d0dae48fd5d0f9c1e88896", func := "quoin/quoinlaw02.InsnLess", spec := "insnLess", named := ["quoin/insn.names"], apart := false, laid := [("quoin/insn.names", laid_quoin_insn_names)], narrowed := true }
def InsnLessUptoSaid : Prop := insnLessUptoRow.holds Tryd.pinned (OpenSpec.upto insnLessSpec)

/-- 'quoinlaw02.InsnNames', WHERE WHAT IT READS IS OF BULK AT MOST 1048576: true; the input reads as it did. -/
def insnNamesUptoRow : OpenClaim := { program := "ytpijiohiohiilaadoor", sum := "851dd71aa92f546c98a84645bd369304d0e9e2b3c0d0dae48fd5d0f9c1e88896", func := "quoin/quoinlaw02.InsnNames", spec := "insnNames", named := ["quoin/insn.names"], apart := false, laid := [("quoin/insn.names", laid_quoin_insn_names)], narrowed := true }
def InsnNamesUptoSaid : Prop := insnNamesUptoRow.holds Tryd.pinned (OpenSpec.upto insnNamesSpec)

/-- 'quoinlaw18.LiShort', WHERE WHAT IT READS IS OF BULK AT MOST 1048576: true; the input reads as it did. -/
def liShortUptoRow : OpenClaim := { program := "ytpijiohiohiilaadoor", sum := "851dd71aa92f546c98a84645bd369304d0e9e2b3c0d0dae48fd5d0f9c1e88896", func := "quoin/quoinlaw18.LiShort", spec := "liShort", unfollowed := true, recurses := true, named := ["quoin/insn.names"], apart := false, laid := [("quoin/insn.names", laid_quoin_insn_names)], narrowed := true }
def LiShortUptoSaid : Prop := liShortUptoRow.holds Tryd.pinned (OpenSpec.upto liShortSpec)

/-- 'quoinlaw18.LiHas', WHERE WHAT IT READS IS OF BULK AT MOST 1048576: true; the input reads as it did. -/
def liHasUptoRow : OpenClaim := { program := "ytpijiohiohiilaadoor", sum := "851dd71aa92f546c98a84645bd369304d0e9e2b3c0d0dae48fd5d0f9c1e88896", func := "quoin/quoinlaw18.LiHas", spec := "liHas", unfollowed := true, recurses := true, named := ["quoin/insn.names"], apart := false, laid := [("quoin/insn.names", laid_quoin_insn_names)], narrowed := true }
def LiHasUptoSaid : Prop := liHasUptoRow.holds Tryd.pinned (OpenSpec.upto liHasSpec)

/-- 'quoinlaw03.EncNames', WHERE WHAT IT READS IS OF BULK AT MOST 1048576: true; the input reads as it did. -/
def encNamesUptoRow : OpenClaim := { program := "ytpijiohiohiilaadoor", sum := "851dd71aa92f546c98a84645bd369304d0e9e2b3c0d0dae48fd5d0f9c1e88896", func := "quoin/quoinlaw03.EncNames", spec := "encNames", named := ["quoin/enc.bases"], apart := false, laid := [("quoin/enc.bases", laid_quoin_enc_bases)], narrowed := true }
def EncNamesUptoSaid : Prop := encNamesUptoRow.holds Tryd.pinned (OpenSpec.upto encNamesSpec)

/-- 'quoinlaw03.EncTells', WHERE WHAT IT READS IS OF BULK AT MOST 1048576: true; the input reads as it did. -/
def encTellsUptoRow : OpenClaim := { program := "ytpijiohiohiilaadoor", sum := "851dd71aa92f546c98a84645bd369304d0e9e2b3c0d0dae48fd5d0f9c1e88896", func := "quoin/quoinlaw03.EncTells", spec := "encTells", named := ["quoin/enc.bases"], apart := false, laid := [("quoin/enc.bases", laid_quoin_enc_bases)], narrowed := true }
def EncTellsUptoSaid : Prop := encTellsUptoRow.holds Tryd.pinned (OpenSpec.upto encTellsSpec)

/-- 'quoinlaw04.DecNames', WHERE WHAT IT READS IS OF BULK AT MOST 1048576: true; the input reads as it did. -/
def decNamesUptoRow : OpenClaim := { program := "ytpijiohiohiilaadoor", sum := "851dd71aa92f546c98a84645bd369304d0e9e2b3c0d0dae48fd5d0f9c1e88896", func := "quoin/quoinlaw04.DecNames", spec := "decNames", named := ["quoin/enc.bases"], apart := false, laid := [("quoin/enc.bases", laid_quoin_enc_bases)], narrowed := true }
def DecNamesUptoSaid : Prop := decNamesUptoRow.holds Tryd.pinned (OpenSpec.upto decNamesSpec)

/-- 'quoinlaw04.DecTells', WHERE WHAT IT READS IS OF BULK AT MOST 1048576: true; the input reads as it did. -/
def decTellsUptoRow : OpenClaim := { program := "ytpijiohiohiilaadoor", sum := "851dd71aa92f546c98a84645bd369304d0e9e2b3c0d0dae48fd5d0f9c1e88896", func := "quoin/quoinlaw04.DecTells", spec := "decTells", named := ["quoin/enc.bases"], apart := false, laid := [("quoin/enc.bases", laid_quoin_enc_bases)], narrowed := true }
def DecTellsUptoSaid : Prop := decTellsUptoRow.holds Tryd.pinned (OpenSpec.upto decTellsSpec)

/-- 'quoinlaw03.EncAlone', WHERE WHAT IT READS IS OF BULK AT MOST 1048576: true; the input reads as it did. -/
def encAloneUptoRow : OpenClaim := { program := "ytpijiohiohiilaadoor", sum := "851dd71aa92f546c98a84645bd369304d0e9e2b3c0d0dae48fd5d0f9c1e88896", func := "quoin/quoinlaw03.EncAlone", spec := "encAlone", named := ["quoin/enc.bases"], apart := false, laid := [("quoin/enc.bases", laid_quoin_enc_bases)], narrowed := true }
def EncAloneUptoSaid : Prop := encAloneUptoRow.holds Tryd.pinned (OpenSpec.upto encAloneSpec)

end Rows
end Go.Proofs.YtpijiohiohiilaaDoor
