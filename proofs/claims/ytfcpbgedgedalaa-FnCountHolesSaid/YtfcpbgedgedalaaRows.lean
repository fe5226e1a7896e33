/-
  No cell of these rows narrows 'for every input' (looked for: loops, veiled, ifaces, maps, wideKeys, modest, calm, conditions, laid).
  DERIVED. THE GIVEN ROWS OF THIS SEAT. 9 by the template 'for every input the law returns true; each argument reads behind the call as it read before'; 0 by the template 'total and deterministic' (their statements: YtfcpbgedgedalaaTotals.lean).
  GIVEN WITH THE SEED: the statements are not yours to turn. If you find one false, say at which input.
  Laid BY PROGRAM, IN A SANDBOX (cutbox-rows.mjs): the forced cells as the released guide's own fill.sh prints them over the translation a255ad3ba01529db… (all of the seat's roots in one cut). By AI agents, Wed Nov 11 2026. No macro, syntax, notation, axiom, sorry.
-/
import Derived.Test.YtfcpbgedgedalaaChecked
import GoSem.Claim
import GoSem.ClaimJoined
import GoSem.ClaimMapViews
import Derived.JoinedTies
import Derived.KernelRfl
namespace Go.Proofs.Ytfcpbgedgedalaa
/- THE CELL 'sum', in the pinned program and in every row, IS THE sha256 OF THE DUMP (.gsa) THAT YtfcpbgedgedalaaProg.lean LOADS. Nothing in Lean hashes anything: it is a label: what it is worth is what the hold of that sum in a sandbox is worth. -/
noncomputable def Try.pinned : Pinned := { name := "ytfcpbgedgedalaa", sum := "a255ad3ba01529db773c0baba5da71227523c104987c1ff169e140846e35ecd1", checked := Try.checked }
namespace Rows
def none {H : Type} : Left H := { results := [], args := [] }

/-- 'laws.FnOverFlat': WHATEVER THE INPUT: true; the input reads as it did. -/
def fnOverFlatSpec : ChangeSpec := { name := "fnOverFlat", fn := fun _ => fun
  | [d] => { results := [.lit (.bool true)], args := [d] }
  | _ => none }
def fnOverFlatRow : OpenClaim := { program := "ytfcpbgedgedalaa", sum := "a255ad3ba01529db773c0baba5da71227523c104987c1ff169e140846e35ecd1", func := "loop.example/callbinding/laws.FnOverFlat", spec := "fnOverFlat", unfollowed := true, recurses := true, apart := false }
def FnOverFlatSaid : Prop := fnOverFlatRow.holds Try.pinned (OpenSpec.ofChange fnOverFlatSpec)

/-- ITS FALSE NEIGHBOUR: 'it returns false'. Refute it at one input. -/
def fnOverFlatWrong : ChangeSpec := { name := "fnOverFlat", fn := fun _ => fun
  | [d] => { results := [.lit (.bool false)], args := [d] }
  | _ => none }
def FnOverFlatWrongFalsely : Prop := fnOverFlatRow.holds Try.pinned (OpenSpec.ofChange fnOverFlatWrong)

/-- 'laws.FnOverFlatNone': WHATEVER THE INPUT: true; the input reads as it did. -/
def fnOverFlatNoneSpec : ChangeSpec := { name := "fnOverFlatNone", fn := fun _ => fun
  | [d] => { results := [.lit (.bool true)], args := [d] }
  | _ => none }
def fnOverFlatNoneRow : OpenClaim := { program := "ytfcpbgedgedalaa", sum := "a255ad3ba01529db773c0baba5da71227523c104987c1ff169e140846e35ecd1", func := "loop.example/callbinding/laws.FnOverFlatNone", spec := "fnOverFlatNone", unfollowed := true, recurses := true, apart := false }
def FnOverFlatNoneSaid : Prop := fnOverFlatNoneRow.holds Try.pinned (OpenSpec.ofChange fnOverFlatNoneSpec)

/-- ITS FALSE NEIGHBOUR: 'it returns false'. Refute it at one input. -/
def fnOverFlatNoneWrong : ChangeSpec := { name := "fnOverFlatNone", fn := fun _ => fun
  | [d] => { results := [.lit (.bool false)], args := [d] }
  | _ => none }
def FnOverFlatNoneWrongFalsely : Prop := fnOverFlatNoneRow.holds Try.pinned (OpenSpec.ofChange fnOverFlatNoneWrong)

/-- 'laws.FnStarCall': WHATEVER THE INPUT: true; the input reads as it did. -/
def fnStarCallSpec : ChangeSpec := { name := "fnStarCall", fn := fun _ => fun
  | [d] => { results := [.lit (.bool true)], args := [d] }
  | _ => none }
def fnStarCallRow : OpenClaim := { program := "ytfcpbgedgedalaa", sum := "a255ad3ba01529db773c0baba5da71227523c104987c1ff169e140846e35ecd1", func := "loop.example/callbinding/laws.FnStarCall", spec := "fnStarCall", unfollowed := true, recurses := true, apart := false }
def FnStarCallSaid : Prop := fnStarCallRow.holds Try.pinned (OpenSpec.ofChange fnStarCallSpec)

/-- ITS FALSE NEIGHBOUR: 'it returns false'. Refute it at one input. -/
def fnStarCallWrong : ChangeSpec := { name := "fnStarCall", fn := fun _ => fun
  | [d] => { results := [.lit (.bool false)], args := [d] }
  | _ => none }
def FnStarCallWrongFalsely : Prop := fnStarCallRow.holds Try.pinned (OpenSpec.ofChange fnStarCallWrong)

/-- 'laws.FnCallOf': WHATEVER THE INPUT: true; the input reads as it did. -/
def fnCallOfSpec : ChangeSpec := { name := "fnCallOf", fn := fun _ => fun
  | [d] => { results := [.lit (.bool true)], args := [d] }
  | _ => none }
def fnCallOfRow : OpenClaim := { program := "ytfcpbgedgedalaa", sum := "a255ad3ba01529db773c0baba5da71227523c104987c1ff169e140846e35ecd1", func := "loop.example/callbinding/laws.FnCallOf", spec := "fnCallOf", unfollowed := true, recurses := true, apart := false }
def FnCallOfSaid : Prop := fnCallOfRow.holds Try.pinned (OpenSpec.ofChange fnCallOfSpec)

/-- ITS FALSE NEIGHBOUR: 'it returns false'. Refute it at one input. -/
def fnCallOfWrong : ChangeSpec := { name := "fnCallOf", fn := fun _ => fun
  | [d] => { results := [.lit (.bool false)], args := [d] }
  | _ => none }
def FnCallOfWrongFalsely : Prop := fnCallOfRow.holds Try.pinned (OpenSpec.ofChange fnCallOfWrong)

/-- 'laws.FnCountHoles': WHATEVER THE INPUT: true; the input reads as it did. -/
def fnCountHolesSpec : ChangeSpec := { name := "fnCountHoles", fn := fun _ => fun
  | [d] => { results := [.lit (.bool true)], args := [d] }
  | _ => none }
def fnCountHolesRow : OpenClaim := { program := "ytfcpbgedgedalaa", sum := "a255ad3ba01529db773c0baba5da71227523c104987c1ff169e140846e35ecd1", func := "loop.example/callbinding/laws.FnCountHoles", spec := "fnCountHoles", unfollowed := true, recurses := true, apart := false }
def FnCountHolesSaid : Prop := fnCountHolesRow.holds Try.pinned (OpenSpec.ofChange fnCountHolesSpec)

/-- ITS FALSE NEIGHBOUR: 'it returns false'. Refute it at one input. -/
def fnCountHolesWrong : ChangeSpec := { name := "fnCountHoles", fn := fun _ => fun
  | [d] => { results := [.lit (.bool false)], args := [d] }
  | _ => none }
def FnCountHolesWrongFalsely : Prop := fnCountHolesRow.holds Try.pinned (OpenSpec.ofChange fnCountHolesWrong)

/-- 'laws.FnExactThenTurn': WHATEVER THE INPUT: true; the input reads as it did. -/
def fnExactThenTurnSpec : ChangeSpec := { name := "fnExactThenTurn", fn := fun _ => fun
  | [d1, d2] => { results := [.lit (.bool true)], args := [d1, d2] }
  | _ => none }
def fnExactThenTurnRow : OpenClaim := { program := "ytfcpbgedgedalaa", sum := "a255ad3ba01529db773c0baba5da71227523c104987c1ff169e140846e35ecd1", func := "loop.example/callbinding/laws.FnExactThenTurn", spec := "fnExactThenTurn", unfollowed := true, recurses := true, apart := false }
def FnExactThenTurnSaid : Prop := fnExactThenTurnRow.holds Try.pinned (OpenSpec.ofChange fnExactThenTurnSpec)

/-- ITS FALSE NEIGHBOUR: 'it returns false'. Refute it at one input. -/
def fnExactThenTurnWrong : ChangeSpec := { name := "fnExactThenTurn", fn := fun _ => fun
  | [d1, d2] => { results := [.lit (.bool false)], args := [d1, d2] }
  | _ => none }
def FnExactThenTurnWrongFalsely : Prop := fnExactThenTurnRow.holds Try.pinned (OpenSpec.ofChange fnExactThenTurnWrong)

/-- 'laws.FnThenTurn': WHATEVER THE INPUT: true; the input reads as it did. -/
def fnThenTurnSpec : ChangeSpec := { name := "fnThenTurn", fn := fun _ => fun
  | [d] => { results := [.lit (.bool true)], args := [d] }
  | _ => none }
def fnThenTurnRow : OpenClaim := { program := "ytfcpbgedgedalaa", sum := "a255ad3ba01529db773c0baba5da71227523c104987c1ff169e140846e35ecd1", func := "loop.example/callbinding/laws.FnThenTurn", spec := "fnThenTurn", unfollowed := true, recurses := true, apart := false }
def FnThenTurnSaid : Prop := fnThenTurnRow.holds Try.pinned (OpenSpec.ofChange fnThenTurnSpec)

/-- ITS FALSE NEIGHBOUR: 'it returns false'. Refute it at one input. -/
def fnThenTurnWrong : ChangeSpec := { name := "fnThenTurn", fn := fun _ => fun
  | [d] => { results := [.lit (.bool false)], args := [d] }
  | _ => none }
def FnThenTurnWrongFalsely : Prop := fnThenTurnRow.holds Try.pinned (OpenSpec.ofChange fnThenTurnWrong)

/-- 'laws.FnTurnFlat': WHATEVER THE INPUT: true; the input reads as it did. -/
def fnTurnFlatSpec : ChangeSpec := { name := "fnTurnFlat", fn := fun _ => fun
  | [d] => { results := [.lit (.bool true)], args := [d] }
  | _ => none }
def fnTurnFlatRow : OpenClaim := { program := "ytfcpbgedgedalaa", sum := "a255ad3ba01529db773c0baba5da71227523c104987c1ff169e140846e35ecd1", func := "loop.example/callbinding/laws.FnTurnFlat", spec := "fnTurnFlat", unfollowed := true, recurses := true, apart := false }
def FnTurnFlatSaid : Prop := fnTurnFlatRow.holds Try.pinned (OpenSpec.ofChange fnTurnFlatSpec)

/-- ITS FALSE NEIGHBOUR: 'it returns false'. Refute it at one input. -/
def fnTurnFlatWrong : ChangeSpec := { name := "fnTurnFlat", fn := fun _ => fun
  | [d] => { results := [.lit (.bool false)], args := [d] }
  | _ => none }
def FnTurnFlatWrongFalsely : Prop := fnTurnFlatRow.holds Try.pinned (OpenSpec.ofChange fnTurnFlatWrong)

/-- 'laws.FnTurnSignature': WHATEVER THE INPUT: true; the input reads as it did. -/
def fnTurnSignatureSpec : ChangeSpec := { name := "fnTurnSignature", fn := fun _ => fun
  | [d] => { results := [.lit (.bool true)], args := [d] }
  | _ => none }
def fnTurnSignatureRow : OpenClaim := { program := "ytfcpbgedgedalaa", sum := "a255ad3ba01529db773c0baba5da71227523c104987c1ff169e140846e35ecd1", func := "loop.example/callbinding/laws.FnTurnSignature", spec := "fnTurnSignature", unfollowed := true, recurses := true, apart := false }
def FnTurnSignatureSaid : Prop := fnTurnSignatureRow.holds Try.pinned (OpenSpec.ofChange fnTurnSignatureSpec)

/-- ITS FALSE NEIGHBOUR: 'it returns false'. Refute it at one input. -/
def fnTurnSignatureWrong : ChangeSpec := { name := "fnTurnSignature", fn := fun _ => fun
  | [d] => { results := [.lit (.bool false)], args := [d] }
  | _ => none }
def FnTurnSignatureWrongFalsely : Prop := fnTurnSignatureRow.holds Try.pinned (OpenSpec.ofChange fnTurnSignatureWrong)

/- THE SECOND FORM. 'bulk': how many values and letters a reading holds, each counted each time it is reached (what is shared counts as often as it is met; a slice's spare places count too). A statement '..UptoSaid' is the law's where the arguments, and the package variables that the reading takes, are together of bulk at most 1048576: NARROWER than '..Said'. Prove '..Said' where nothing that the law and all that it calls make is longer than what came in: it says more and counts as full. Else prove '..UptoSaid'. A law counts once. -/
mutual
def uptoBulk {H : Type} : DataW H → Nat
  | .lit (.string bytes) => bytes.length + 1
  | .lit _ => 1
  | .nil => 1
  | .ptr d => uptoBulk d + 1
  | .slice elems spare => uptoBulkAll elems + uptoBulkAll spare + 1
  | .agg parts => uptoBulkAll parts + 1
  | .iface _ d => uptoBulk d + 1
  | .map entries => uptoBulkEntries entries + 1
  | .held _ => 1
def uptoBulkAll {H : Type} : List (DataW H) → Nat
  | [] => 0
  | d :: r => uptoBulk d + uptoBulkAll r
def uptoBulkEntries {H : Type} : List (Lit × DataW H) → Nat
  | [] => 0
  | x :: r => uptoBulkEntry x + uptoBulkEntries r
def uptoBulkEntry {H : Type} : Lit × DataW H → Nat
  | (.string bytes, d) => bytes.length + uptoBulk d + 1
  | (_, d) => uptoBulk d + 1
 end
def uptoSmall : (H : Type) → List (DataW H) → Bool := fun _ ds => decide (uptoBulkAll ds ≤ 1048576)
def OpenSpec.upto (s : _root_.Go.ChangeSpec) : _root_.Go.OpenSpec := { _root_.Go.OpenSpec.ofChange s with cond := some uptoSmall }

/-- 'laws.FnOverFlat', WHERE WHAT IT READS IS OF BULK AT MOST 1048576: true; the input reads as it did. -/
def fnOverFlatUptoRow : OpenClaim := { program := "ytfcpbgedgedalaa", sum := "a255ad3ba01529db773c0baba5da71227523c104987c1ff169e140846e35ecd1", func := "loop.example/callbinding/laws.FnOverFlat", spec := "fnOverFlat", unfollowed := true, recurses := true, apart := false, narrowed := true }
def FnOverFlatUptoSaid : Prop := fnOverFlatUptoRow.holds Try.pinned (OpenSpec.upto fnOverFlatSpec)

/-- 'laws.FnOverFlatNone', WHERE WHAT IT READS IS OF BULK AT MOST 1048576: true; the input reads as it did. -/
def fnOverFlatNoneUptoRow : OpenClaim := { program := "ytfcpbgedgedalaa", sum := "a255ad3ba01529db773c0baba5da71227523c104987c1ff169e140846e35ecd1", func := "loop.example/callbinding/laws.FnOverFlatNone", spec := "fnOverFlatNone", unfollowed := true, recurses := true, apart := false, narrowed := true }
def FnOverFlatNoneUptoSaid : Prop := fnOverFlatNoneUptoRow.holds Try.pinned (OpenSpec.upto fnOverFlatNoneSpec)

/-- 'laws.FnStarCall', WHERE WHAT IT READS IS OF BULK AT MOST 1048576: true; the input reads as it did. -/
def fnStarCallUptoRow : OpenClaim := { program := "ytfcpbgedgedalaa", sum := "a255ad3ba01529db773c0baba5da71227523c104987c1ff169e140846e35ecd1", func := "loop.example/callbinding/laws.FnStarCall", spec := "fnStarCall", unfollowed := true, recurses := true, apart := false, narrowed := true }
def FnStarCallUptoSaid : Prop := fnStarCallUptoRow.holds Try.pinned (OpenSpec.upto fnStarCallSpec)

/-- 'laws.FnCallOf', WHERE WHAT IT READS IS OF BULK AT MOST 1048576: true; the input reads as it did. -/
def fnCallOfUptoRow : OpenClaim := { program := "ytfcpbgedgedalaa", sum := "a255ad3ba01529db773c0baba5da71227523c104987c1ff169e140846e35ecd1", func := "loop.example/callbinding/laws.FnCallOf", spec := "fnCallOf", unfollowed := true, recurses := true, apart := false, narrowed := true }
def FnCallOfUptoSaid : Prop := fnCallOfUptoRow.holds Try.pinned (OpenSpec.upto fnCallOfSpec)

/-- 'laws.FnCountHoles', WHERE WHAT IT READS IS OF BULK AT MOST 1048576: true; the input reads as it did. -/
def fnCountHolesUptoRow : OpenClaim := { program := "ytfcpbgedgedalaa", sum := "a255ad3ba01529db773c0baba5da71227523c104987c1ff169e140846e35ecd1", func := "loop.example/callbinding/laws.FnCountHoles", spec := "fnCountHoles", unfollowed := true, recurses := true, apart := false, narrowed := true }
def FnCountHolesUptoSaid : Prop := fnCountHolesUptoRow.holds Try.pinned (OpenSpec.upto fnCountHolesSpec)

/-- 'laws.FnExactThenTurn', WHERE WHAT IT READS IS OF BULK AT MOST 1048576: true; the input reads as it did. -/
def fnExactThenTurnUptoRow : OpenClaim := { program := "ytfcpbgedgedalaa", sum := "a255ad3ba01529db773c0baba5da71227523c104987c1ff169e140846e35ecd1", func := "loop.example/callbinding/laws.FnExactThenTurn", spec := "fnExactThenTurn", unfollowed := true, recurses := true, apart := false, narrowed := true }
def FnExactThenTurnUptoSaid : Prop := fnExactThenTurnUptoRow.holds Try.pinned (OpenSpec.upto fnExactThenTurnSpec)

/-- 'laws.FnThenTurn', WHERE WHAT IT READS IS OF BULK AT MOST 1048576: true; the input reads as it did. -/
def fnThenTurnUptoRow : OpenClaim := { program := "ytfcpbgedgedalaa", sum := "a255ad3ba01529db773c0baba5da71227523c104987c1ff169e140846e35ecd1", func := "loop.example/callbinding/laws.FnThenTurn", spec := "fnThenTurn", unfollowed := true, recurses := true, apart := false, narrowed := true }
def FnThenTurnUptoSaid : Prop := fnThenTurnUptoRow.holds Try.pinned (OpenSpec.upto fnThenTurnSpec)

/-- 'laws.FnTurnFlat', WHERE WHAT IT READS IS OF BULK AT MOST 1048576: true; the input reads as it did. -/
def fnTurnFlatUptoRow : OpenClaim := { program := "ytfcpbgedgedalaa", sum := "a255ad3ba01529db773c0baba5da71227523c104987c1ff169e140846e35ecd1", func := "loop.example/callbinding/laws.FnTurnFlat", spec := "fnTurnFlat", unfollowed := true, recurses := true, apart := false, narrowed := true }
def FnTurnFlatUptoSaid : Prop := fnTurnFlatUptoRow.holds Try.pinned (OpenSpec.upto fnTurnFlatSpec)

/-- 'laws.FnTurnSignature', WHERE WHAT IT READS IS OF BULK AT MOST 1048576: true; the input reads as it did. -/
def fnTurnSignatureUptoRow : OpenClaim := { program := "ytfcpbgedgedalaa", sum := "a255ad3ba01529db773c0baba5da71227523c104987c1ff169e140846e35ecd1", func := "loop.example/callbinding/laws.FnTurnSignature", spec := "fnTurnSignature", unfollowed := true, recurses := true, apart := false, narrowed := true }
def FnTurnSignatureUptoSaid : Prop := fnTurnSignatureUptoRow.holds Try.pinned (OpenSpec.upto fnTurnSignatureSpec)

end Rows
end Go.Proofs.Ytfcpbgedgedalaa
