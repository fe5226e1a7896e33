/-
  No cell of these rows narrows 'for every input' (looked for: loops, veiled, ifaces, maps, wideKeys, modest, calm, conditions, laid).
  DERIVED. THE GIVEN ROWS OF THIS SEAT. 12 by the template 'for every input the law returns true; each argument reads behind the call as it read before'; 0 by the template 'total and deterministic' (their statements: YtjnfofgonddflaaTotals.lean).
  GIVEN WITH THE SEED: the statements are not yours to turn. If you find one false, say at which input.
  Laid BY PROGRAM, IN A SANDBOX (cutbox-rows.mjs): the forced cells as the released guide's own fill.sh prints them over the translation b1c53685a5be9279… (all of the seat's roots in one cut). By AI agents, Wed Nov 11 2026. No macro, syntax, notation, axiom, sorry.
-/
import Derived.Test.YtjnfofgonddflaaChecked
import GoSem.Claim
import GoSem.ClaimJoined
import GoSem.ClaimMapViews
import Derived.JoinedTies
import Derived.KernelRfl
namespace Go.Proofs.Ytjnfofgonddflaa
/- THE CELL 'sum', in the pinned program and in every row, IS THE sha256 OF THE DUMP (.gsa) THAT YtjnfofgonddflaaProg.lean LOADS. Nothing in Lean hashes anything: it is a label: what it is worth is what the hold of that sum in a sandbox is worth. -/
noncomputable def Try.pinned : Pinned := { name := "ytjnfofgonddflaa", sum := "b1c53685a5be92791f10e644a93da8026c3beda15a8865159ecc8d9b9728ce94", checked := Try.checked }
namespace Rows
def none {H : Type} : Left H := { results := [], args := [] }

/-- 'laws.FnValidSignature': WHATEVER THE INPUT: true; the input reads as it did. -/
def fnValidSignatureSpec : ChangeSpec := { name := "fnValidSignature", fn := fun _ => fun
  | [d] => { results := [.lit (.bool true)], args := [d] }
  | _ => none }
def fnValidSignatureRow : OpenClaim := { program := "ytjnfofgonddflaa", sum := "b1c53685a5be92791f10e644a93da8026c3beda15a8865159ecc8d9b9728ce94", func := "loop.example/callbinding/laws.FnValidSignature", spec := "fnValidSignature", unfollowed := true, recurses := true, apart := false }
def FnValidSignatureSaid : Prop := fnValidSignatureRow.holds Try.pinned (OpenSpec.ofChange fnValidSignatureSpec)

/-- ITS FALSE NEIGHBOUR: 'it returns false'. Refute it at one input. -/
def fnValidSignatureWrong : ChangeSpec := { name := "fnValidSignature", fn := fun _ => fun
  | [d] => { results := [.lit (.bool false)], args := [d] }
  | _ => none }
def FnValidSignatureWrongFalsely : Prop := fnValidSignatureRow.holds Try.pinned (OpenSpec.ofChange fnValidSignatureWrong)

/-- 'laws.FnExactFindParam': WHATEVER THE INPUT: true; the input reads as it did. -/
def fnExactFindParamSpec : ChangeSpec := { name := "fnExactFindParam", fn := fun _ => fun
  | [d1, d2] => { results := [.lit (.bool true)], args := [d1, d2] }
  | _ => none }
def fnExactFindParamRow : OpenClaim := { program := "ytjnfofgonddflaa", sum := "b1c53685a5be92791f10e644a93da8026c3beda15a8865159ecc8d9b9728ce94", func := "loop.example/callbinding/laws.FnExactFindParam", spec := "fnExactFindParam", unfollowed := true, recurses := true, apart := false }
def FnExactFindParamSaid : Prop := fnExactFindParamRow.holds Try.pinned (OpenSpec.ofChange fnExactFindParamSpec)

/-- ITS FALSE NEIGHBOUR: 'it returns false'. Refute it at one input. -/
def fnExactFindParamWrong : ChangeSpec := { name := "fnExactFindParam", fn := fun _ => fun
  | [d1, d2] => { results := [.lit (.bool false)], args := [d1, d2] }
  | _ => none }
def FnExactFindParamWrongFalsely : Prop := fnExactFindParamRow.holds Try.pinned (OpenSpec.ofChange fnExactFindParamWrong)

/-- 'laws.FnExactIsWrapper': WHATEVER THE INPUT: true; the input reads as it did. -/
def fnExactIsWrapperSpec : ChangeSpec := { name := "fnExactIsWrapper", fn := fun _ => fun
  | [d] => { results := [.lit (.bool true)], args := [d] }
  | _ => none }
def fnExactIsWrapperRow : OpenClaim := { program := "ytjnfofgonddflaa", sum := "b1c53685a5be92791f10e644a93da8026c3beda15a8865159ecc8d9b9728ce94", func := "loop.example/callbinding/laws.FnExactIsWrapper", spec := "fnExactIsWrapper", unfollowed := true, recurses := true, apart := false }
def FnExactIsWrapperSaid : Prop := fnExactIsWrapperRow.holds Try.pinned (OpenSpec.ofChange fnExactIsWrapperSpec)

/-- ITS FALSE NEIGHBOUR: 'it returns false'. Refute it at one input. -/
def fnExactIsWrapperWrong : ChangeSpec := { name := "fnExactIsWrapper", fn := fun _ => fun
  | [d] => { results := [.lit (.bool false)], args := [d] }
  | _ => none }
def FnExactIsWrapperWrongFalsely : Prop := fnExactIsWrapperRow.holds Try.pinned (OpenSpec.ofChange fnExactIsWrapperWrong)

/-- 'laws.FnFindParam': WHATEVER THE INPUT: true; the input reads as it did. -/
def fnFindParamSpec : ChangeSpec := { name := "fnFindParam", fn := fun _ => fun
  | [d] => { results := [.lit (.bool true)], args := [d] }
  | _ => none }
def fnFindParamRow : OpenClaim := { program := "ytjnfofgonddflaa", sum := "b1c53685a5be92791f10e644a93da8026c3beda15a8865159ecc8d9b9728ce94", func := "loop.example/callbinding/laws.FnFindParam", spec := "fnFindParam", unfollowed := true, recurses := true, apart := false }
def FnFindParamSaid : Prop := fnFindParamRow.holds Try.pinned (OpenSpec.ofChange fnFindParamSpec)

/-- ITS FALSE NEIGHBOUR: 'it returns false'. Refute it at one input. -/
def fnFindParamWrong : ChangeSpec := { name := "fnFindParam", fn := fun _ => fun
  | [d] => { results := [.lit (.bool false)], args := [d] }
  | _ => none }
def FnFindParamWrongFalsely : Prop := fnFindParamRow.holds Try.pinned (OpenSpec.ofChange fnFindParamWrong)

/-- 'laws.FnExactTakesName': WHATEVER THE INPUT: true; the input reads as it did. -/
def fnExactTakesNameSpec : ChangeSpec := { name := "fnExactTakesName", fn := fun _ => fun
  | [d1, d2] => { results := [.lit (.bool true)], args := [d1, d2] }
  | _ => none }
def fnExactTakesNameRow : OpenClaim := { program := "ytjnfofgonddflaa", sum := "b1c53685a5be92791f10e644a93da8026c3beda15a8865159ecc8d9b9728ce94", func := "loop.example/callbinding/laws.FnExactTakesName", spec := "fnExactTakesName", unfollowed := true, recurses := true, apart := false }
def FnExactTakesNameSaid : Prop := fnExactTakesNameRow.holds Try.pinned (OpenSpec.ofChange fnExactTakesNameSpec)

/-- ITS FALSE NEIGHBOUR: 'it returns false'. Refute it at one input. -/
def fnExactTakesNameWrong : ChangeSpec := { name := "fnExactTakesName", fn := fun _ => fun
  | [d1, d2] => { results := [.lit (.bool false)], args := [d1, d2] }
  | _ => none }
def FnExactTakesNameWrongFalsely : Prop := fnExactTakesNameRow.holds Try.pinned (OpenSpec.ofChange fnExactTakesNameWrong)

/-- 'laws.FnExactMostPlaces': WHATEVER THE INPUT: true; the input reads as it did. -/
def fnExactMostPlacesSpec : ChangeSpec := { name := "fnExactMostPlaces", fn := fun _ => fun
  | [d] => { results := [.lit (.bool true)], args := [d] }
  | _ => none }
def fnExactMostPlacesRow : OpenClaim := { program := "ytjnfofgonddflaa", sum := "b1c53685a5be92791f10e644a93da8026c3beda15a8865159ecc8d9b9728ce94", func := "loop.example/callbinding/laws.FnExactMostPlaces", spec := "fnExactMostPlaces", unfollowed := true, recurses := true, apart := false }
def FnExactMostPlacesSaid : Prop := fnExactMostPlacesRow.holds Try.pinned (OpenSpec.ofChange fnExactMostPlacesSpec)

/-- ITS FALSE NEIGHBOUR: 'it returns false'. Refute it at one input. -/
def fnExactMostPlacesWrong : ChangeSpec := { name := "fnExactMostPlaces", fn := fun _ => fun
  | [d] => { results := [.lit (.bool false)], args := [d] }
  | _ => none }
def FnExactMostPlacesWrongFalsely : Prop := fnExactMostPlacesRow.holds Try.pinned (OpenSpec.ofChange fnExactMostPlacesWrong)

/-- 'laws.FnParamNames': WHATEVER THE INPUT: true; the input reads as it did. -/
def fnParamNamesSpec : ChangeSpec := { name := "fnParamNames", fn := fun _ => fun
  | [d] => { results := [.lit (.bool true)], args := [d] }
  | _ => none }
def fnParamNamesRow : OpenClaim := { program := "ytjnfofgonddflaa", sum := "b1c53685a5be92791f10e644a93da8026c3beda15a8865159ecc8d9b9728ce94", func := "loop.example/callbinding/laws.FnParamNames", spec := "fnParamNames", unfollowed := true, recurses := true, apart := false }
def FnParamNamesSaid : Prop := fnParamNamesRow.holds Try.pinned (OpenSpec.ofChange fnParamNamesSpec)

/-- ITS FALSE NEIGHBOUR: 'it returns false'. Refute it at one input. -/
def fnParamNamesWrong : ChangeSpec := { name := "fnParamNames", fn := fun _ => fun
  | [d] => { results := [.lit (.bool false)], args := [d] }
  | _ => none }
def FnParamNamesWrongFalsely : Prop := fnParamNamesRow.holds Try.pinned (OpenSpec.ofChange fnParamNamesWrong)

/-- 'laws.FnExactNeededParams': WHATEVER THE INPUT: true; the input reads as it did. -/
def fnExactNeededParamsSpec : ChangeSpec := { name := "fnExactNeededParams", fn := fun _ => fun
  | [d] => { results := [.lit (.bool true)], args := [d] }
  | _ => none }
def fnExactNeededParamsRow : OpenClaim := { program := "ytjnfofgonddflaa", sum := "b1c53685a5be92791f10e644a93da8026c3beda15a8865159ecc8d9b9728ce94", func := "loop.example/callbinding/laws.FnExactNeededParams", spec := "fnExactNeededParams", unfollowed := true, recurses := true, apart := false }
def FnExactNeededParamsSaid : Prop := fnExactNeededParamsRow.holds Try.pinned (OpenSpec.ofChange fnExactNeededParamsSpec)

/-- ITS FALSE NEIGHBOUR: 'it returns false'. Refute it at one input. -/
def fnExactNeededParamsWrong : ChangeSpec := { name := "fnExactNeededParams", fn := fun _ => fun
  | [d] => { results := [.lit (.bool false)], args := [d] }
  | _ => none }
def FnExactNeededParamsWrongFalsely : Prop := fnExactNeededParamsRow.holds Try.pinned (OpenSpec.ofChange fnExactNeededParamsWrong)

/-- 'laws.FnExactParamNames': WHATEVER THE INPUT: true; the input reads as it did. -/
def fnExactParamNamesSpec : ChangeSpec := { name := "fnExactParamNames", fn := fun _ => fun
  | [d1, d2] => { results := [.lit (.bool true)], args := [d1, d2] }
  | _ => none }
def fnExactParamNamesRow : OpenClaim := { program := "ytjnfofgonddflaa", sum := "b1c53685a5be92791f10e644a93da8026c3beda15a8865159ecc8d9b9728ce94", func := "loop.example/callbinding/laws.FnExactParamNames", spec := "fnExactParamNames", unfollowed := true, recurses := true, apart := false }
def FnExactParamNamesSaid : Prop := fnExactParamNamesRow.holds Try.pinned (OpenSpec.ofChange fnExactParamNamesSpec)

/-- ITS FALSE NEIGHBOUR: 'it returns false'. Refute it at one input. -/
def fnExactParamNamesWrong : ChangeSpec := { name := "fnExactParamNames", fn := fun _ => fun
  | [d1, d2] => { results := [.lit (.bool false)], args := [d1, d2] }
  | _ => none }
def FnExactParamNamesWrongFalsely : Prop := fnExactParamNamesRow.holds Try.pinned (OpenSpec.ofChange fnExactParamNamesWrong)

/-- 'laws.FnExactMethodSignature': WHATEVER THE INPUT: true; the input reads as it did. -/
def fnExactMethodSignatureSpec : ChangeSpec := { name := "fnExactMethodSignature", fn := fun _ => fun
  | [d] => { results := [.lit (.bool true)], args := [d] }
  | _ => none }
def fnExactMethodSignatureRow : OpenClaim := { program := "ytjnfofgonddflaa", sum := "b1c53685a5be92791f10e644a93da8026c3beda15a8865159ecc8d9b9728ce94", func := "loop.example/callbinding/laws.FnExactMethodSignature", spec := "fnExactMethodSignature", unfollowed := true, recurses := true, apart := false }
def FnExactMethodSignatureSaid : Prop := fnExactMethodSignatureRow.holds Try.pinned (OpenSpec.ofChange fnExactMethodSignatureSpec)

/-- ITS FALSE NEIGHBOUR: 'it returns false'. Refute it at one input. -/
def fnExactMethodSignatureWrong : ChangeSpec := { name := "fnExactMethodSignature", fn := fun _ => fun
  | [d] => { results := [.lit (.bool false)], args := [d] }
  | _ => none }
def FnExactMethodSignatureWrongFalsely : Prop := fnExactMethodSignatureRow.holds Try.pinned (OpenSpec.ofChange fnExactMethodSignatureWrong)

/-- 'laws.FnExactPlacesOnly': WHATEVER THE INPUT: true; the input reads as it did. -/
def fnExactPlacesOnlySpec : ChangeSpec := { name := "fnExactPlacesOnly", fn := fun _ => fun
  | [d] => { results := [.lit (.bool true)], args := [d] }
  | _ => none }
def fnExactPlacesOnlyRow : OpenClaim := { program := "ytjnfofgonddflaa", sum := "b1c53685a5be92791f10e644a93da8026c3beda15a8865159ecc8d9b9728ce94", func := "loop.example/callbinding/laws.FnExactPlacesOnly", spec := "fnExactPlacesOnly", unfollowed := true, recurses := true, apart := false }
def FnExactPlacesOnlySaid : Prop := fnExactPlacesOnlyRow.holds Try.pinned (OpenSpec.ofChange fnExactPlacesOnlySpec)

/-- ITS FALSE NEIGHBOUR: 'it returns false'. Refute it at one input. -/
def fnExactPlacesOnlyWrong : ChangeSpec := { name := "fnExactPlacesOnly", fn := fun _ => fun
  | [d] => { results := [.lit (.bool false)], args := [d] }
  | _ => none }
def FnExactPlacesOnlyWrongFalsely : Prop := fnExactPlacesOnlyRow.holds Try.pinned (OpenSpec.ofChange fnExactPlacesOnlyWrong)

/-- 'laws.FnExactNamedOnly': WHATEVER THE INPUT: true; the input reads as it did. -/
def fnExactNamedOnlySpec : ChangeSpec := { name := "fnExactNamedOnly", fn := fun _ => fun
  | [d] => { results := [.lit (.bool true)], args := [d] }
  | _ => none }
def fnExactNamedOnlyRow : OpenClaim := { program := "ytjnfofgonddflaa", sum := "b1c53685a5be92791f10e644a93da8026c3beda15a8865159ecc8d9b9728ce94", func := "loop.example/callbinding/laws.FnExactNamedOnly", spec := "fnExactNamedOnly", unfollowed := true, recurses := true, apart := false }
def FnExactNamedOnlySaid : Prop := fnExactNamedOnlyRow.holds Try.pinned (OpenSpec.ofChange fnExactNamedOnlySpec)

/-- ITS FALSE NEIGHBOUR: 'it returns false'. Refute it at one input. -/
def fnExactNamedOnlyWrong : ChangeSpec := { name := "fnExactNamedOnly", fn := fun _ => fun
  | [d] => { results := [.lit (.bool false)], args := [d] }
  | _ => none }
def FnExactNamedOnlyWrongFalsely : Prop := fnExactNamedOnlyRow.holds Try.pinned (OpenSpec.ofChange fnExactNamedOnlyWrong)

/- THE SECOND FORM. 'bulk': how many values and letters a reading holds, each counted each time it is reached (what is shared counts as often as it is met; a slice's spare places count too). A statement '..UptoSaid' is the law's where the arguments, and the package variables that the reading takes, are together of bulk at most 1048576: NARROWER than '..Said'. Prove '..Said' where nothing that the law and all that it calls make is longer than what came in: it says more and counts as full. Else prove '..UptoSaid'. A law counts once. -/
mutual
def uptoBulk {H : Type} : DataW H → Nat
  | .lit (.string bytes) => bytes.length + 1
  | .lit _ => 1
  | .nil => 1
  | .ptr d => uptoBulk d + 1
  | .slice elems spare => uptoBulkAll elems + uptoBulkAll spare + 1
  | .agg parts => uptoBulkAll parts + 1
  | .iface _ d => uptoBulk d + 1
  | .map entries => uptoBulkEntries entries + 1
  | .held _ => 1
def uptoBulkAll {H : Type} : List (DataW H) → Nat
  | [] => 0
  | d :: r => uptoBulk d + uptoBulkAll r
def uptoBulkEntries {H : Type} : List (Lit × DataW H) → Nat
  | [] => 0
  | x :: r => uptoBulkEntry x + uptoBulkEntries r
def uptoBulkEntry {H : Type} : Lit × DataW H → Nat
  | (.string bytes, d) => bytes.length + uptoBulk d + 1
  | (_, d) => uptoBulk d + 1
 end
def uptoSmall : (H : Type) → List (DataW H) → Bool := fun _ ds => decide (uptoBulkAll ds ≤ 1048576)
def OpenSpec.upto (s : _root_.Go.ChangeSpec) : _root_.Go.OpenSpec := { _root_.Go.OpenSpec.ofChange s with cond := some uptoSmall }

/-- 'laws.FnValidSignature', WHERE WHAT IT READS IS OF BULK AT MOST 1048576: true; the input reads as it did. -/
def fnValidSignatureUptoRow : OpenClaim := { program := "ytjnfofgonddflaa", sum := "b1c53685a5be92791f10e644a93da8026c3beda15a8865159ecc8d9b9728ce94", func := "loop.example/callbinding/laws.FnValidSignature", spec := "fnValidSignature", unfollowed := true, recurses := true, apart := false, narrowed := true }
def FnValidSignatureUptoSaid : Prop := fnValidSignatureUptoRow.holds Try.pinned (OpenSpec.upto fnValidSignatureSpec)

/-- 'laws.FnExactFindParam', WHERE WHAT IT READS IS OF BULK AT MOST 1048576: true; the input reads as it did. -/
def fnExactFindParamUptoRow : OpenClaim := { program := "ytjnfofgonddflaa", sum := "b1c53685a5be92791f10e644a93da8026c3beda15a8865159ecc8d9b9728ce94", func := "loop.example/callbinding/laws.FnExactFindParam", spec := "fnExactFindParam", unfollowed := true, recurses := true, apart := false, narrowed := true }
def FnExactFindParamUptoSaid : Prop := fnExactFindParamUptoRow.holds Try.pinned (OpenSpec.upto fnExactFindParamSpec)

/-- 'laws.FnExactIsWrapper', WHERE WHAT IT READS IS OF BULK AT MOST 1048576: true; the input reads as it did. -/
def fnExactIsWrapperUptoRow : OpenClaim := { program := "ytjnfofgonddflaa", sum := "b1c53685a5be92791f10e644a93da8026c3beda15a8865159ecc8d9b9728ce94", func := "loop.example/callbinding/laws.FnExactIsWrapper", spec := "fnExactIsWrapper", unfollowed := true, recurses := true, apart := false, narrowed := true }
def FnExactIsWrapperUptoSaid : Prop := fnExactIsWrapperUptoRow.holds Try.pinned (OpenSpec.upto fnExactIsWrapperSpec)

/-- 'laws.FnFindParam', WHERE WHAT IT READS IS OF BULK AT MOST 1048576: true; the input reads as it did. -/
def fnFindParamUptoRow : OpenClaim := { program := "ytjnfofgonddflaa", sum := "b1c53685a5be92791f10e644a93da8026c3beda15a8865159ecc8d9b9728ce94", func := "loop.example/callbinding/laws.FnFindParam", spec := "fnFindParam", unfollowed := true, recurses := true, apart := false, narrowed := true }
def FnFindParamUptoSaid : Prop := fnFindParamUptoRow.holds Try.pinned (OpenSpec.upto fnFindParamSpec)

/-- 'laws.FnExactTakesName', WHERE WHAT IT READS IS OF BULK AT MOST 1048576: true; the input reads as it did. -/
def fnExactTakesNameUptoRow : OpenClaim := { program := "ytjnfofgonddflaa", sum := "b1c53685a5be92791f10e644a93da8026c3beda15a8865159ecc8d9b9728ce94", func := "loop.example/callbinding/laws.FnExactTakesName", spec := "fnExactTakesName", unfollowed := true, recurses := true, apart := false, narrowed := true }
def FnExactTakesNameUptoSaid : Prop := fnExactTakesNameUptoRow.holds Try.pinned (OpenSpec.upto fnExactTakesNameSpec)

/-- 'laws.FnExactMostPlaces', WHERE WHAT IT READS IS OF BULK AT MOST 1048576: true; the input reads as it did. -/
def fnExactMostPlacesUptoRow : OpenClaim := { program := "ytjnfofgonddflaa", sum := "b1c53685a5be92791f10e644a93da8026c3beda15a8865159ecc8d9b9728ce94", func := "loop.example/callbinding/laws.FnExactMostPlaces", spec := "fnExactMostPlaces", unfollowed := true, recurses := true, apart := false, narrowed := true }
def FnExactMostPlacesUptoSaid : Prop := fnExactMostPlacesUptoRow.holds Try.pinned (OpenSpec.upto fnExactMostPlacesSpec)

/-- 'laws.FnParamNames', WHERE WHAT IT READS IS OF BULK AT MOST 1048576: true; the input reads as it did. -/
def fnParamNamesUptoRow : OpenClaim := { program := "ytjnfofgonddflaa", sum := "b1c53685a5be92791f10e644a93da8026c3beda15a8865159ecc8d9b9728ce94", func := "loop.example/callbinding/laws.FnParamNames", spec := "fnParamNames", unfollowed := true, recurses := true, apart := false, narrowed := true }
def FnParamNamesUptoSaid : Prop := fnParamNamesUptoRow.holds Try.pinned (OpenSpec.upto fnParamNamesSpec)

/-- 'laws.FnExactNeededParams', WHERE WHAT IT READS IS OF BULK AT MOST 1048576: true; the input reads as it did. -/
def fnExactNeededParamsUptoRow : OpenClaim := { program := "ytjnfofgonddflaa", sum := "b1c53685a5be92791f10e644a93da8026c3beda15a8865159ecc8d9b9728ce94", func := "loop.example/callbinding/laws.FnExactNeededParams", spec := "fnExactNeededParams", unfollowed := true, recurses := true, apart := false, narrowed := true }
def FnExactNeededParamsUptoSaid : Prop := fnExactNeededParamsUptoRow.holds Try.pinned (OpenSpec.upto fnExactNeededParamsSpec)

/-- 'laws.FnExactParamNames', WHERE WHAT IT READS IS OF BULK AT MOST 1048576: true; the input reads as it did. -/
def fnExactParamNamesUptoRow : OpenClaim := { program := "ytjnfofgonddflaa", sum := "b1c53685a5be92791f10e644a93da8026c3beda15a8865159ecc8d9b9728ce94", func := "loop.example/callbinding/laws.FnExactParamNames", spec := "fnExactParamNames", unfollowed := true, recurses := true, apart := false, narrowed := true }
def FnExactParamNamesUptoSaid : Prop := fnExactParamNamesUptoRow.holds Try.pinned (OpenSpec.upto fnExactParamNamesSpec)

/-- 'laws.FnExactMethodSignature', WHERE WHAT IT READS IS OF BULK AT MOST 1048576: true; the input reads as it did. -/
def fnExactMethodSignatureUptoRow : OpenClaim := { program := "ytjnfofgonddflaa", sum := "b1c53685a5be92791f10e644a93da8026c3beda15a8865159ecc8d9b9728ce94", func := "loop.example/callbinding/laws.FnExactMethodSignature", spec := "fnExactMethodSignature", unfollowed := true, recurses := true, apart := false, narrowed := true }
def FnExactMethodSignatureUptoSaid : Prop := fnExactMethodSignatureUptoRow.holds Try.pinned (OpenSpec.upto fnExactMethodSignatureSpec)

/-- 'laws.FnExactPlacesOnly', WHERE WHAT IT READS IS OF BULK AT MOST 1048576: true; the input reads as it did. -/
def fnExactPlacesOnlyUptoRow : OpenClaim := { program := "ytjnfofgonddflaa", sum := "b1c53685a5be92791f10e644a93da8026c3beda15a8865159ecc8d9b9728ce94", func := "loop.example/callbinding/laws.FnExactPlacesOnly", spec := "fnExactPlacesOnly", unfollowed := true, recurses := true, apart := false, narrowed := true }
def FnExactPlacesOnlyUptoSaid : Prop := fnExactPlacesOnlyUptoRow.holds Try.pinned (OpenSpec.upto fnExactPlacesOnlySpec)

/-- 'laws.FnExactNamedOnly', WHERE WHAT IT READS IS OF BULK AT MOST 1048576: true; the input reads as it did. -/
def fnExactNamedOnlyUptoRow : OpenClaim := { program := "ytjnfofgonddflaa", sum := "b1c53685a5be92791f10e644a93da8026c3beda15a8865159ecc8d9b9728ce94", func := "loop.example/callbinding/laws.FnExactNamedOnly", spec := "fnExactNamedOnly", unfollowed := true, recurses := true, apart := false, narrowed := true }
def FnExactNamedOnlyUptoSaid : Prop := fnExactNamedOnlyUptoRow.holds Try.pinned (OpenSpec.upto fnExactNamedOnlySpec)

end Rows
end Go.Proofs.Ytjnfofgonddflaa
