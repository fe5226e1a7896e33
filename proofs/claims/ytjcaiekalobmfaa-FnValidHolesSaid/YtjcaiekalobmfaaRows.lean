/-
  No cell of these rows narrows 'for every input' (looked for: loops, veiled, ifaces, maps, wideKeys, modest, calm, conditions, laid).
  DERIVED. THE GIVEN ROWS OF THIS SEAT. 12 by the template 'for every input the law returns true; each argument reads behind the call as it read before'; 0 by the template 'total and deterministic' (their statements: YtjcaiekalobmfaaTotals.lean).
  GIVEN WITH THE SEED: the statements are not yours to turn. If you find one false, say at which input.
  Laid BY PROGRAM, IN A SANDBOX (cutbox-rows.mjs): the forced cells as the released guide's own fill.sh prints them over the translation d83b8639a0742090… (all of the seat's roots in one cut). By AI agents, Wed Nov 11 2026. No macro, syntax, notation, axiom, sorry.
-/
import Derived.Test.YtjcaiekalobmfaaChecked
import GoSem.Claim
import GoSem.ClaimJoined
import GoSem.ClaimMapViews
import Derived.JoinedTies
import Derived.KernelRfl
namespace Go.Proofs.Ytjcaiekalobmfaa
/- THE CELL 'sum', in the pinned program and in every row, IS THE sha256 OF THE DUMP (.gsa) THAT YtjcaiekalobmfaaProg.lean LOADS. Nothing in Lean hashes anything: it is a label: what it is worth is what the hold of that sum in a sandbox is worth. -/
noncomputable def Try.pinned : Pinned := { name := "ytjcaiekalobmfaa", sum := "d83b8639a07420909ee56d5fe1b78aac97f575ae79434be369599cf67c1d6320", checked := Try.checked }
namespace Rows
def none {H : Type} : Left H := { results := [], args := [] }

/-- 'laws.FnExactConstants': WHATEVER THE INPUT: true; the input reads as it did. -/
def fnExactConstantsSpec : ChangeSpec := { name := "fnExactConstants", fn := fun _ => fun
  | [] => { results := [.lit (.bool true)], args := [] }
  | _ => none }
def fnExactConstantsRow : OpenClaim := { program := "ytjcaiekalobmfaa", sum := "d83b8639a07420909ee56d5fe1b78aac97f575ae79434be369599cf67c1d6320", func := "loop.example/callbinding/laws.FnExactConstants", spec := "fnExactConstants", apart := false }
def FnExactConstantsSaid : Prop := fnExactConstantsRow.holds Try.pinned (OpenSpec.ofChange fnExactConstantsSpec)

/-- ITS FALSE NEIGHBOUR: 'it returns false'. Refute it at one input. -/
def fnExactConstantsWrong : ChangeSpec := { name := "fnExactConstants", fn := fun _ => fun
  | [] => { results := [.lit (.bool false)], args := [] }
  | _ => none }
def FnExactConstantsWrongFalsely : Prop := fnExactConstantsRow.holds Try.pinned (OpenSpec.ofChange fnExactConstantsWrong)

/-- 'laws.FnExactProblemText': WHATEVER THE INPUT: true; the input reads as it did. -/
def fnExactProblemTextSpec : ChangeSpec := { name := "fnExactProblemText", fn := fun _ => fun
  | [d] => { results := [.lit (.bool true)], args := [d] }
  | _ => none }
def fnExactProblemTextRow : OpenClaim := { program := "ytjcaiekalobmfaa", sum := "d83b8639a07420909ee56d5fe1b78aac97f575ae79434be369599cf67c1d6320", func := "loop.example/callbinding/laws.FnExactProblemText", spec := "fnExactProblemText", apart := false }
def FnExactProblemTextSaid : Prop := fnExactProblemTextRow.holds Try.pinned (OpenSpec.ofChange fnExactProblemTextSpec)

/-- ITS FALSE NEIGHBOUR: 'it returns false'. Refute it at one input. -/
def fnExactProblemTextWrong : ChangeSpec := { name := "fnExactProblemText", fn := fun _ => fun
  | [d] => { results := [.lit (.bool false)], args := [d] }
  | _ => none }
def FnExactProblemTextWrongFalsely : Prop := fnExactProblemTextRow.holds Try.pinned (OpenSpec.ofChange fnExactProblemTextWrong)

/-- 'laws.FnExactValidShape': WHATEVER THE INPUT: true; the input reads as it did. -/
def fnExactValidShapeSpec : ChangeSpec := { name := "fnExactValidShape", fn := fun _ => fun
  | [d] => { results := [.lit (.bool true)], args := [d] }
  | _ => none }
def fnExactValidShapeRow : OpenClaim := { program := "ytjcaiekalobmfaa", sum := "d83b8639a07420909ee56d5fe1b78aac97f575ae79434be369599cf67c1d6320", func := "loop.example/callbinding/laws.FnExactValidShape", spec := "fnExactValidShape", apart := false }
def FnExactValidShapeSaid : Prop := fnExactValidShapeRow.holds Try.pinned (OpenSpec.ofChange fnExactValidShapeSpec)

/-- ITS FALSE NEIGHBOUR: 'it returns false'. Refute it at one input. -/
def fnExactValidShapeWrong : ChangeSpec := { name := "fnExactValidShape", fn := fun _ => fun
  | [d] => { results := [.lit (.bool false)], args := [d] }
  | _ => none }
def FnExactValidShapeWrongFalsely : Prop := fnExactValidShapeRow.holds Try.pinned (OpenSpec.ofChange fnExactValidShapeWrong)

/-- 'laws.FnProblemText': WHATEVER THE INPUT: true; the input reads as it did. -/
def fnProblemTextSpec : ChangeSpec := { name := "fnProblemText", fn := fun _ => fun
  | [d] => { results := [.lit (.bool true)], args := [d] }
  | _ => none }
def fnProblemTextRow : OpenClaim := { program := "ytjcaiekalobmfaa", sum := "d83b8639a07420909ee56d5fe1b78aac97f575ae79434be369599cf67c1d6320", func := "loop.example/callbinding/laws.FnProblemText", spec := "fnProblemText", apart := false }
def FnProblemTextSaid : Prop := fnProblemTextRow.holds Try.pinned (OpenSpec.ofChange fnProblemTextSpec)

/-- ITS FALSE NEIGHBOUR: 'it returns false'. Refute it at one input. -/
def fnProblemTextWrong : ChangeSpec := { name := "fnProblemText", fn := fun _ => fun
  | [d] => { results := [.lit (.bool false)], args := [d] }
  | _ => none }
def FnProblemTextWrongFalsely : Prop := fnProblemTextRow.holds Try.pinned (OpenSpec.ofChange fnProblemTextWrong)

/-- 'laws.FnExactValidTurns': WHATEVER THE INPUT: true; the input reads as it did. -/
def fnExactValidTurnsSpec : ChangeSpec := { name := "fnExactValidTurns", fn := fun _ => fun
  | [d] => { results := [.lit (.bool true)], args := [d] }
  | _ => none }
def fnExactValidTurnsRow : OpenClaim := { program := "ytjcaiekalobmfaa", sum := "d83b8639a07420909ee56d5fe1b78aac97f575ae79434be369599cf67c1d6320", func := "loop.example/callbinding/laws.FnExactValidTurns", spec := "fnExactValidTurns", unfollowed := true, recurses := true, apart := false }
def FnExactValidTurnsSaid : Prop := fnExactValidTurnsRow.holds Try.pinned (OpenSpec.ofChange fnExactValidTurnsSpec)

/-- ITS FALSE NEIGHBOUR: 'it returns false'. Refute it at one input. -/
def fnExactValidTurnsWrong : ChangeSpec := { name := "fnExactValidTurns", fn := fun _ => fun
  | [d] => { results := [.lit (.bool false)], args := [d] }
  | _ => none }
def FnExactValidTurnsWrongFalsely : Prop := fnExactValidTurnsRow.holds Try.pinned (OpenSpec.ofChange fnExactValidTurnsWrong)

/-- 'laws.FnValidTurns': WHATEVER THE INPUT: true; the input reads as it did. -/
def fnValidTurnsSpec : ChangeSpec := { name := "fnValidTurns", fn := fun _ => fun
  | [d] => { results := [.lit (.bool true)], args := [d] }
  | _ => none }
def fnValidTurnsRow : OpenClaim := { program := "ytjcaiekalobmfaa", sum := "d83b8639a07420909ee56d5fe1b78aac97f575ae79434be369599cf67c1d6320", func := "loop.example/callbinding/laws.FnValidTurns", spec := "fnValidTurns", unfollowed := true, recurses := true, apart := false }
def FnValidTurnsSaid : Prop := fnValidTurnsRow.holds Try.pinned (OpenSpec.ofChange fnValidTurnsSpec)

/-- ITS FALSE NEIGHBOUR: 'it returns false'. Refute it at one input. -/
def fnValidTurnsWrong : ChangeSpec := { name := "fnValidTurns", fn := fun _ => fun
  | [d] => { results := [.lit (.bool false)], args := [d] }
  | _ => none }
def FnValidTurnsWrongFalsely : Prop := fnValidTurnsRow.holds Try.pinned (OpenSpec.ofChange fnValidTurnsWrong)

/-- 'laws.FnExactMethodFlat': WHATEVER THE INPUT: true; the input reads as it did. -/
def fnExactMethodFlatSpec : ChangeSpec := { name := "fnExactMethodFlat", fn := fun _ => fun
  | [d1, d2] => { results := [.lit (.bool true)], args := [d1, d2] }
  | _ => none }
def fnExactMethodFlatRow : OpenClaim := { program := "ytjcaiekalobmfaa", sum := "d83b8639a07420909ee56d5fe1b78aac97f575ae79434be369599cf67c1d6320", func := "loop.example/callbinding/laws.FnExactMethodFlat", spec := "fnExactMethodFlat", unfollowed := true, recurses := true, apart := false }
def FnExactMethodFlatSaid : Prop := fnExactMethodFlatRow.holds Try.pinned (OpenSpec.ofChange fnExactMethodFlatSpec)

/-- ITS FALSE NEIGHBOUR: 'it returns false'. Refute it at one input. -/
def fnExactMethodFlatWrong : ChangeSpec := { name := "fnExactMethodFlat", fn := fun _ => fun
  | [d1, d2] => { results := [.lit (.bool false)], args := [d1, d2] }
  | _ => none }
def FnExactMethodFlatWrongFalsely : Prop := fnExactMethodFlatRow.holds Try.pinned (OpenSpec.ofChange fnExactMethodFlatWrong)

/-- 'laws.FnTurnBack': WHATEVER THE INPUT: true; the input reads as it did. -/
def fnTurnBackSpec : ChangeSpec := { name := "fnTurnBack", fn := fun _ => fun
  | [d] => { results := [.lit (.bool true)], args := [d] }
  | _ => none }
def fnTurnBackRow : OpenClaim := { program := "ytjcaiekalobmfaa", sum := "d83b8639a07420909ee56d5fe1b78aac97f575ae79434be369599cf67c1d6320", func := "loop.example/callbinding/laws.FnTurnBack", spec := "fnTurnBack", unfollowed := true, recurses := true, apart := false }
def FnTurnBackSaid : Prop := fnTurnBackRow.holds Try.pinned (OpenSpec.ofChange fnTurnBackSpec)

/-- ITS FALSE NEIGHBOUR: 'it returns false'. Refute it at one input. -/
def fnTurnBackWrong : ChangeSpec := { name := "fnTurnBack", fn := fun _ => fun
  | [d] => { results := [.lit (.bool false)], args := [d] }
  | _ => none }
def FnTurnBackWrongFalsely : Prop := fnTurnBackRow.holds Try.pinned (OpenSpec.ofChange fnTurnBackWrong)

/-- 'laws.FnValidFlat': WHATEVER THE INPUT: true; the input reads as it did. -/
def fnValidFlatSpec : ChangeSpec := { name := "fnValidFlat", fn := fun _ => fun
  | [d] => { results := [.lit (.bool true)], args := [d] }
  | _ => none }
def fnValidFlatRow : OpenClaim := { program := "ytjcaiekalobmfaa", sum := "d83b8639a07420909ee56d5fe1b78aac97f575ae79434be369599cf67c1d6320", func := "loop.example/callbinding/laws.FnValidFlat", spec := "fnValidFlat", unfollowed := true, recurses := true, apart := false }
def FnValidFlatSaid : Prop := fnValidFlatRow.holds Try.pinned (OpenSpec.ofChange fnValidFlatSpec)

/-- ITS FALSE NEIGHBOUR: 'it returns false'. Refute it at one input. -/
def fnValidFlatWrong : ChangeSpec := { name := "fnValidFlat", fn := fun _ => fun
  | [d] => { results := [.lit (.bool false)], args := [d] }
  | _ => none }
def FnValidFlatWrongFalsely : Prop := fnValidFlatRow.holds Try.pinned (OpenSpec.ofChange fnValidFlatWrong)

/-- 'laws.FnExactTurnBack': WHATEVER THE INPUT: true; the input reads as it did. -/
def fnExactTurnBackSpec : ChangeSpec := { name := "fnExactTurnBack", fn := fun _ => fun
  | [d] => { results := [.lit (.bool true)], args := [d] }
  | _ => none }
def fnExactTurnBackRow : OpenClaim := { program := "ytjcaiekalobmfaa", sum := "d83b8639a07420909ee56d5fe1b78aac97f575ae79434be369599cf67c1d6320", func := "loop.example/callbinding/laws.FnExactTurnBack", spec := "fnExactTurnBack", unfollowed := true, recurses := true, apart := false }
def FnExactTurnBackSaid : Prop := fnExactTurnBackRow.holds Try.pinned (OpenSpec.ofChange fnExactTurnBackSpec)

/-- ITS FALSE NEIGHBOUR: 'it returns false'. Refute it at one input. -/
def fnExactTurnBackWrong : ChangeSpec := { name := "fnExactTurnBack", fn := fun _ => fun
  | [d] => { results := [.lit (.bool false)], args := [d] }
  | _ => none }
def FnExactTurnBackWrongFalsely : Prop := fnExactTurnBackRow.holds Try.pinned (OpenSpec.ofChange fnExactTurnBackWrong)

/-- 'laws.FnExactValidSignature': WHATEVER THE INPUT: true; the input reads as it did. -/
def fnExactValidSignatureSpec : ChangeSpec := { name := "fnExactValidSignature", fn := fun _ => fun
  | [d] => { results := [.lit (.bool true)], args := [d] }
  | _ => none }
def fnExactValidSignatureRow : OpenClaim := { program := "ytjcaiekalobmfaa", sum := "d83b8639a07420909ee56d5fe1b78aac97f575ae79434be369599cf67c1d6320", func := "loop.example/callbinding/laws.FnExactValidSignature", spec := "fnExactValidSignature", unfollowed := true, recurses := true, apart := false }
def FnExactValidSignatureSaid : Prop := fnExactValidSignatureRow.holds Try.pinned (OpenSpec.ofChange fnExactValidSignatureSpec)

/-- ITS FALSE NEIGHBOUR: 'it returns false'. Refute it at one input. -/
def fnExactValidSignatureWrong : ChangeSpec := { name := "fnExactValidSignature", fn := fun _ => fun
  | [d] => { results := [.lit (.bool false)], args := [d] }
  | _ => none }
def FnExactValidSignatureWrongFalsely : Prop := fnExactValidSignatureRow.holds Try.pinned (OpenSpec.ofChange fnExactValidSignatureWrong)

/-- 'laws.FnValidHoles': WHATEVER THE INPUT: true; the input reads as it did. -/
def fnValidHolesSpec : ChangeSpec := { name := "fnValidHoles", fn := fun _ => fun
  | [d] => { results := [.lit (.bool true)], args := [d] }
  | _ => none }
def fnValidHolesRow : OpenClaim := { program := "ytjcaiekalobmfaa", sum := "d83b8639a07420909ee56d5fe1b78aac97f575ae79434be369599cf67c1d6320", func := "loop.example/callbinding/laws.FnValidHoles", spec := "fnValidHoles", unfollowed := true, recurses := true, apart := false }
def FnValidHolesSaid : Prop := fnValidHolesRow.holds Try.pinned (OpenSpec.ofChange fnValidHolesSpec)

/-- ITS FALSE NEIGHBOUR: 'it returns false'. Refute it at one input. -/
def fnValidHolesWrong : ChangeSpec := { name := "fnValidHoles", fn := fun _ => fun
  | [d] => { results := [.lit (.bool false)], args := [d] }
  | _ => none }
def FnValidHolesWrongFalsely : Prop := fnValidHolesRow.holds Try.pinned (OpenSpec.ofChange fnValidHolesWrong)

/- THE SECOND FORM. 'bulk': how many values and letters a reading holds, each counted each time it is reached (what is shared counts as often as it is met; a slice's spare places count too). A statement '..UptoSaid' is the law's where the arguments, and the package variables that the reading takes, are together of bulk at most 1048576: NARROWER than '..Said'. Prove '..Said' where nothing that the law and all that it calls make is longer than what came in: it says more and counts as full. Else prove '..UptoSaid'. A law counts once. -/
mutual
def uptoBulk {H : Type} : DataW H → Nat
  | .lit (.string bytes) => bytes.length + 1
  | .lit _ => 1
  | .nil => 1
  | .ptr d => uptoBulk d + 1
  | .slice elems spare => uptoBulkAll elems + uptoBulkAll spare + 1
  | .agg parts => uptoBulkAll parts + 1
  | .iface _ d => uptoBulk d + 1
  | .map entries => uptoBulkEntries entries + 1
  | .held _ => 1
def uptoBulkAll {H : Type} : List (DataW H) → Nat
  | [] => 0
  | d :: r => uptoBulk d + uptoBulkAll r
def uptoBulkEntries {H : Type} : List (Lit × DataW H) → Nat
  | [] => 0
  | x :: r => uptoBulkEntry x + uptoBulkEntries r
def uptoBulkEntry {H : Type} : Lit × DataW H → Nat
  | (.string bytes, d) => bytes.length + uptoBulk d + 1
  | (_, d) => uptoBulk d + 1
 end
def uptoSmall : (H : Type) → List (DataW H) → Bool := fun _ ds => decide (uptoBulkAll ds ≤ 1048576)
def OpenSpec.upto (s : _root_.Go.ChangeSpec) : _root_.Go.OpenSpec := { _root_.Go.OpenSpec.ofChange s with cond := some uptoSmall }

/-- 'laws.FnExactConstants', WHERE WHAT IT READS IS OF BULK AT MOST 1048576: true; the input reads as it did. -/
def fnExactConstantsUptoRow : OpenClaim := { program := "ytjcaiekalobmfaa", sum := "d83b8639a07420909ee56d5fe1b78aac97f575ae79434be369599cf67c1d6320", func := "loop.example/callbinding/laws.FnExactConstants", spec := "fnExactConstants", apart := false, narrowed := true }
def FnExactConstantsUptoSaid : Prop := fnExactConstantsUptoRow.holds Try.pinned (OpenSpec.upto fnExactConstantsSpec)

/-- 'laws.FnExactProblemText', WHERE WHAT IT READS IS OF BULK AT MOST 1048576: true; the input reads as it did. -/
def fnExactProblemTextUptoRow : OpenClaim := { program := "ytjcaiekalobmfaa", sum := "d83b8639a07420909ee56d5fe1b78aac97f575ae79434be369599cf67c1d6320", func := "loop.example/callbinding/laws.FnExactProblemText", spec := "fnExactProblemText", apart := false, narrowed := true }
def FnExactProblemTextUptoSaid : Prop := fnExactProblemTextUptoRow.holds Try.pinned (OpenSpec.upto fnExactProblemTextSpec)

/-- 'laws.FnExactValidShape', WHERE WHAT IT READS IS OF BULK AT MOST 1048576: true; the input reads as it did. -/
def fnExactValidShapeUptoRow : OpenClaim := { program := "ytjcaiekalobmfaa", sum := "d83b8639a07420909ee56d5fe1b78aac97f575ae79434be369599cf67c1d6320", func := "loop.example/callbinding/laws.FnExactValidShape", spec := "fnExactValidShape", apart := false, narrowed := true }
def FnExactValidShapeUptoSaid : Prop := fnExactValidShapeUptoRow.holds Try.pinned (OpenSpec.upto fnExactValidShapeSpec)

/-- 'laws.FnProblemText', WHERE WHAT IT READS IS OF BULK AT MOST 1048576: true; the input reads as it did. -/
def fnProblemTextUptoRow : OpenClaim := { program := "ytjcaiekalobmfaa", sum := "d83b8639a07420909ee56d5fe1b78aac97f575ae79434be369599cf67c1d6320", func := "loop.example/callbinding/laws.FnProblemText", spec := "fnProblemText", apart := false, narrowed := true }
def FnProblemTextUptoSaid : Prop := fnProblemTextUptoRow.holds Try.pinned (OpenSpec.upto fnProblemTextSpec)

/-- 'laws.FnExactValidTurns', WHERE WHAT IT READS IS OF BULK AT MOST 1048576: true; the input reads as it did. -/
def fnExactValidTurnsUptoRow : OpenClaim := { program := "ytjcaiekalobmfaa", sum := "d83b8639a07420909ee56d5fe1b78aac97f575ae79434be369599cf67c1d6320", func := "loop.example/callbinding/laws.FnExactValidTurns", spec := "fnExactValidTurns", unfollowed := true, recurses := true, apart := false, narrowed := true }
def FnExactValidTurnsUptoSaid : Prop := fnExactValidTurnsUptoRow.holds Try.pinned (OpenSpec.upto fnExactValidTurnsSpec)

/-- 'laws.FnValidTurns', WHERE WHAT IT READS IS OF BULK AT MOST 1048576: true; the input reads as it did. -/
def fnValidTurnsUptoRow : OpenClaim := { program := "ytjcaiekalobmfaa", sum := "d83b8639a07420909ee56d5fe1b78aac97f575ae79434be369599cf67c1d6320", func := "loop.example/callbinding/laws.FnValidTurns", spec := "fnValidTurns", unfollowed := true, recurses := true, apart := false, narrowed := true }
def FnValidTurnsUptoSaid : Prop := fnValidTurnsUptoRow.holds Try.pinned (OpenSpec.upto fnValidTurnsSpec)

/-- 'laws.FnExactMethodFlat', WHERE WHAT IT READS IS OF BULK AT MOST 1048576: true; the input reads as it did. -/
def fnExactMethodFlatUptoRow : OpenClaim := { program := "ytjcaiekalobmfaa", sum := "d83b8639a07420909ee56d5fe1b78aac97f575ae79434be369599cf67c1d6320", func := "loop.example/callbinding/laws.FnExactMethodFlat", spec := "fnExactMethodFlat", unfollowed := true, recurses := true, apart := false, narrowed := true }
def FnExactMethodFlatUptoSaid : Prop := fnExactMethodFlatUptoRow.holds Try.pinned (OpenSpec.upto fnExactMethodFlatSpec)

/-- 'laws.FnTurnBack', WHERE WHAT IT READS IS OF BULK AT MOST 1048576: true; the input reads as it did. -/
def fnTurnBackUptoRow : OpenClaim := { program := "ytjcaiekalobmfaa", sum := "d83b8639a07420909ee56d5fe1b78aac97f575ae79434be369599cf67c1d6320", func := "loop.example/callbinding/laws.FnTurnBack", spec := "fnTurnBack", unfollowed := true, recurses := true, apart := false, narrowed := true }
def FnTurnBackUptoSaid : Prop := fnTurnBackUptoRow.holds Try.pinned (OpenSpec.upto fnTurnBackSpec)

/-- 'laws.FnValidFlat', WHERE WHAT IT READS IS OF BULK AT MOST 1048576: true; the input reads as it did. -/
def fnValidFlatUptoRow : OpenClaim := { program := "ytjcaiekalobmfaa", sum := "d83b8639a07420909ee56d5fe1b78aac97f575ae79434be369599cf67c1d6320", func := "loop.example/callbinding/laws.FnValidFlat", spec := "fnValidFlat", unfollowed := true, recurses := true, apart := false, narrowed := true }
def FnValidFlatUptoSaid : Prop := fnValidFlatUptoRow.holds Try.pinned (OpenSpec.upto fnValidFlatSpec)

/-- 'laws.FnExactTurnBack', WHERE WHAT IT READS IS OF BULK AT MOST 1048576: true; the input reads as it did. -/
def fnExactTurnBackUptoRow : OpenClaim := { program := "ytjcaiekalobmfaa", sum := "d83b8639a07420909ee56d5fe1b78aac97f575ae79434be369599cf67c1d6320", func := "loop.example/callbinding/laws.FnExactTurnBack", spec := "fnExactTurnBack", unfollowed := true, recurses := true, apart := false, narrowed := true }
def FnExactTurnBackUptoSaid : Prop := fnExactTurnBackUptoRow.holds Try.pinned (OpenSpec.upto fnExactTurnBackSpec)

/-- 'laws.FnExactValidSignature', WHERE WHAT IT READS IS OF BULK AT MOST 1048576: true; the input reads as it did. -/
def fnExactValidSignatureUptoRow : OpenClaim := { program := "ytjcaiekalobmfaa", sum := "d83b8639a07420909ee56d5fe1b78aac97f575ae79434be369599cf67c1d6320", func := "loop.example/callbinding/laws.FnExactValidSignature", spec := "fnExactValidSignature", unfollowed := true, recurses := true, apart := false, narrowed := true }
def FnExactValidSignatureUptoSaid : Prop := fnExactValidSignatureUptoRow.holds Try.pinned (OpenSpec.upto fnExactValidSignatureSpec)

/-- 'laws.FnValidHoles', WHERE WHAT IT READS IS OF BULK AT MOST 1048576: true; the input reads as it did. -/
def fnValidHolesUptoRow : OpenClaim := { program := "ytjcaiekalobmfaa", sum := "d83b8639a07420909ee56d5fe1b78aac97f575ae79434be369599cf67c1d6320", func := "loop.example/callbinding/laws.FnValidHoles", spec := "fnValidHoles", unfollowed := true, recurses := true, apart := false, narrowed := true }
def FnValidHolesUptoSaid : Prop := fnValidHolesUptoRow.holds Try.pinned (OpenSpec.upto fnValidHolesSpec)

end Rows
end Go.Proofs.Ytjcaiekalobmfaa
