/-
  No cell of these rows narrows 'for every input' (looked for: loops, veiled, ifaces, maps, wideKeys, modest, calm, conditions, laid).
  DERIVED. THE GIVEN ROWS OF THIS SEAT. 12 by the template 'for every input the law returns true; each argument reads behind the call as it read before'; 0 by the template 'total and deterministic' (their statements: YtlpmggokgcphiaaTotals.lean).
  GIVEN WITH THE SEED: the statements are not yours to turn. If you find one false, say at which input.
  Laid BY PROGRAM, IN A SANDBOX (cutbox-rows.mjs): the forced cells as the released guide's own fill.sh prints them over the translation abe43f522f6c1b25… (all of the seat's roots in one cut). By AI agents, Wed Nov 11 2026. No macro, syntax, notation, axiom, sorry.
-/
import Derived.Test.YtlpmggokgcphiaaChecked
import GoSem.Claim
import GoSem.ClaimJoined
import GoSem.ClaimMapViews
import Derived.JoinedTies
import Derived.KernelRfl
namespace Go.Proofs.Ytlpmggokgcphiaa
/- THE CELL 'sum', in the pinned program and in every row, IS THE sha256 OF THE DUMP (.gsa) THAT YtlpmggokgcphiaaProg.lean LOADS. Nothing in Lean hashes anything: it is a label: what it is worth is what the hold of that sum in a sandbox is worth. -/
noncomputable def Try.pinned : Pinned := { name := "ytlpmggokgcphiaa", sum := "abe43f522f6c1b259bf937db1ff2c0fc9509e82618aaa4192868a332d626d5dd", checked := Try.checked }
namespace Rows
def none {H : Type} : Left H := { results := [], args := [] }

/-- 'laws.FnDropParam': WHATEVER THE INPUT: true; the input reads as it did. -/
def fnDropParamSpec : ChangeSpec := { name := "fnDropParam", fn := fun _ => fun
  | [d] => { results := [.lit (.bool true)], args := [d] }
  | _ => none }
def fnDropParamRow : OpenClaim := { program := "ytlpmggokgcphiaa", sum := "abe43f522f6c1b259bf937db1ff2c0fc9509e82618aaa4192868a332d626d5dd", func := "loop.example/callbinding/laws.FnDropParam", spec := "fnDropParam", unfollowed := true, recurses := true, apart := false }
def FnDropParamSaid : Prop := fnDropParamRow.holds Try.pinned (OpenSpec.ofChange fnDropParamSpec)

/-- ITS FALSE NEIGHBOUR: 'it returns false'. Refute it at one input. -/
def fnDropParamWrong : ChangeSpec := { name := "fnDropParam", fn := fun _ => fun
  | [d] => { results := [.lit (.bool false)], args := [d] }
  | _ => none }
def FnDropParamWrongFalsely : Prop := fnDropParamRow.holds Try.pinned (OpenSpec.ofChange fnDropParamWrong)

/-- 'laws.FnAddParam': WHATEVER THE INPUT: true; the input reads as it did. -/
def fnAddParamSpec : ChangeSpec := { name := "fnAddParam", fn := fun _ => fun
  | [d] => { results := [.lit (.bool true)], args := [d] }
  | _ => none }
def fnAddParamRow : OpenClaim := { program := "ytlpmggokgcphiaa", sum := "abe43f522f6c1b259bf937db1ff2c0fc9509e82618aaa4192868a332d626d5dd", func := "loop.example/callbinding/laws.FnAddParam", spec := "fnAddParam", unfollowed := true, recurses := true, apart := false }
def FnAddParamSaid : Prop := fnAddParamRow.holds Try.pinned (OpenSpec.ofChange fnAddParamSpec)

/-- ITS FALSE NEIGHBOUR: 'it returns false'. Refute it at one input. -/
def fnAddParamWrong : ChangeSpec := { name := "fnAddParam", fn := fun _ => fun
  | [d] => { results := [.lit (.bool false)], args := [d] }
  | _ => none }
def FnAddParamWrongFalsely : Prop := fnAddParamRow.holds Try.pinned (OpenSpec.ofChange fnAddParamWrong)

/-- 'laws.FnExactDropParam': WHATEVER THE INPUT: true; the input reads as it did. -/
def fnExactDropParamSpec : ChangeSpec := { name := "fnExactDropParam", fn := fun _ => fun
  | [d1, d2] => { results := [.lit (.bool true)], args := [d1, d2] }
  | _ => none }
def fnExactDropParamRow : OpenClaim := { program := "ytlpmggokgcphiaa", sum := "abe43f522f6c1b259bf937db1ff2c0fc9509e82618aaa4192868a332d626d5dd", func := "loop.example/callbinding/laws.FnExactDropParam", spec := "fnExactDropParam", unfollowed := true, recurses := true, apart := false }
def FnExactDropParamSaid : Prop := fnExactDropParamRow.holds Try.pinned (OpenSpec.ofChange fnExactDropParamSpec)

/-- ITS FALSE NEIGHBOUR: 'it returns false'. Refute it at one input. -/
def fnExactDropParamWrong : ChangeSpec := { name := "fnExactDropParam", fn := fun _ => fun
  | [d1, d2] => { results := [.lit (.bool false)], args := [d1, d2] }
  | _ => none }
def FnExactDropParamWrongFalsely : Prop := fnExactDropParamRow.holds Try.pinned (OpenSpec.ofChange fnExactDropParamWrong)

/-- 'laws.FnRenameParam': WHATEVER THE INPUT: true; the input reads as it did. -/
def fnRenameParamSpec : ChangeSpec := { name := "fnRenameParam", fn := fun _ => fun
  | [d] => { results := [.lit (.bool true)], args := [d] }
  | _ => none }
def fnRenameParamRow : OpenClaim := { program := "ytlpmggokgcphiaa", sum := "abe43f522f6c1b259bf937db1ff2c0fc9509e82618aaa4192868a332d626d5dd", func := "loop.example/callbinding/laws.FnRenameParam", spec := "fnRenameParam", unfollowed := true, recurses := true, apart := false }
def FnRenameParamSaid : Prop := fnRenameParamRow.holds Try.pinned (OpenSpec.ofChange fnRenameParamSpec)

/-- ITS FALSE NEIGHBOUR: 'it returns false'. Refute it at one input. -/
def fnRenameParamWrong : ChangeSpec := { name := "fnRenameParam", fn := fun _ => fun
  | [d] => { results := [.lit (.bool false)], args := [d] }
  | _ => none }
def FnRenameParamWrongFalsely : Prop := fnRenameParamRow.holds Try.pinned (OpenSpec.ofChange fnRenameParamWrong)

/-- 'laws.FnExactRenameParam': WHATEVER THE INPUT: true; the input reads as it did. -/
def fnExactRenameParamSpec : ChangeSpec := { name := "fnExactRenameParam", fn := fun _ => fun
  | [d1, d2, d3] => { results := [.lit (.bool true)], args := [d1, d2, d3] }
  | _ => none }
def fnExactRenameParamRow : OpenClaim := { program := "ytlpmggokgcphiaa", sum := "abe43f522f6c1b259bf937db1ff2c0fc9509e82618aaa4192868a332d626d5dd", func := "loop.example/callbinding/laws.FnExactRenameParam", spec := "fnExactRenameParam", unfollowed := true, recurses := true, apart := false }
def FnExactRenameParamSaid : Prop := fnExactRenameParamRow.holds Try.pinned (OpenSpec.ofChange fnExactRenameParamSpec)

/-- ITS FALSE NEIGHBOUR: 'it returns false'. Refute it at one input. -/
def fnExactRenameParamWrong : ChangeSpec := { name := "fnExactRenameParam", fn := fun _ => fun
  | [d1, d2, d3] => { results := [.lit (.bool false)], args := [d1, d2, d3] }
  | _ => none }
def FnExactRenameParamWrongFalsely : Prop := fnExactRenameParamRow.holds Try.pinned (OpenSpec.ofChange fnExactRenameParamWrong)

/-- 'laws.FnExactSetDefault': WHATEVER THE INPUT: true; the input reads as it did. -/
def fnExactSetDefaultSpec : ChangeSpec := { name := "fnExactSetDefault", fn := fun _ => fun
  | [d1, d2, d3] => { results := [.lit (.bool true)], args := [d1, d2, d3] }
  | _ => none }
def fnExactSetDefaultRow : OpenClaim := { program := "ytlpmggokgcphiaa", sum := "abe43f522f6c1b259bf937db1ff2c0fc9509e82618aaa4192868a332d626d5dd", func := "loop.example/callbinding/laws.FnExactSetDefault", spec := "fnExactSetDefault", unfollowed := true, recurses := true, apart := false }
def FnExactSetDefaultSaid : Prop := fnExactSetDefaultRow.holds Try.pinned (OpenSpec.ofChange fnExactSetDefaultSpec)

/-- ITS FALSE NEIGHBOUR: 'it returns false'. Refute it at one input. -/
def fnExactSetDefaultWrong : ChangeSpec := { name := "fnExactSetDefault", fn := fun _ => fun
  | [d1, d2, d3] => { results := [.lit (.bool false)], args := [d1, d2, d3] }
  | _ => none }
def FnExactSetDefaultWrongFalsely : Prop := fnExactSetDefaultRow.holds Try.pinned (OpenSpec.ofChange fnExactSetDefaultWrong)

/-- 'laws.FnExactClearDefault': WHATEVER THE INPUT: true; the input reads as it did. -/
def fnExactClearDefaultSpec : ChangeSpec := { name := "fnExactClearDefault", fn := fun _ => fun
  | [d1, d2] => { results := [.lit (.bool true)], args := [d1, d2] }
  | _ => none }
def fnExactClearDefaultRow : OpenClaim := { program := "ytlpmggokgcphiaa", sum := "abe43f522f6c1b259bf937db1ff2c0fc9509e82618aaa4192868a332d626d5dd", func := "loop.example/callbinding/laws.FnExactClearDefault", spec := "fnExactClearDefault", unfollowed := true, recurses := true, apart := false }
def FnExactClearDefaultSaid : Prop := fnExactClearDefaultRow.holds Try.pinned (OpenSpec.ofChange fnExactClearDefaultSpec)

/-- ITS FALSE NEIGHBOUR: 'it returns false'. Refute it at one input. -/
def fnExactClearDefaultWrong : ChangeSpec := { name := "fnExactClearDefault", fn := fun _ => fun
  | [d1, d2] => { results := [.lit (.bool false)], args := [d1, d2] }
  | _ => none }
def FnExactClearDefaultWrongFalsely : Prop := fnExactClearDefaultRow.holds Try.pinned (OpenSpec.ofChange fnExactClearDefaultWrong)

/-- 'laws.FnExactAddParam': WHATEVER THE INPUT: true; the input reads as it did. -/
def fnExactAddParamSpec : ChangeSpec := { name := "fnExactAddParam", fn := fun _ => fun
  | [d1, d2] => { results := [.lit (.bool true)], args := [d1, d2] }
  | _ => none }
def fnExactAddParamRow : OpenClaim := { program := "ytlpmggokgcphiaa", sum := "abe43f522f6c1b259bf937db1ff2c0fc9509e82618aaa4192868a332d626d5dd", func := "loop.example/callbinding/laws.FnExactAddParam", spec := "fnExactAddParam", unfollowed := true, recurses := true, apart := false }
def FnExactAddParamSaid : Prop := fnExactAddParamRow.holds Try.pinned (OpenSpec.ofChange fnExactAddParamSpec)

/-- ITS FALSE NEIGHBOUR: 'it returns false'. Refute it at one input. -/
def fnExactAddParamWrong : ChangeSpec := { name := "fnExactAddParam", fn := fun _ => fun
  | [d1, d2] => { results := [.lit (.bool false)], args := [d1, d2] }
  | _ => none }
def FnExactAddParamWrongFalsely : Prop := fnExactAddParamRow.holds Try.pinned (OpenSpec.ofChange fnExactAddParamWrong)

/-- 'laws.FnExactWrappedSignature': WHATEVER THE INPUT: true; the input reads as it did. -/
def fnExactWrappedSignatureSpec : ChangeSpec := { name := "fnExactWrappedSignature", fn := fun _ => fun
  | [d1, d2] => { results := [.lit (.bool true)], args := [d1, d2] }
  | _ => none }
def fnExactWrappedSignatureRow : OpenClaim := { program := "ytlpmggokgcphiaa", sum := "abe43f522f6c1b259bf937db1ff2c0fc9509e82618aaa4192868a332d626d5dd", func := "loop.example/callbinding/laws.FnExactWrappedSignature", spec := "fnExactWrappedSignature", unfollowed := true, recurses := true, apart := false }
def FnExactWrappedSignatureSaid : Prop := fnExactWrappedSignatureRow.holds Try.pinned (OpenSpec.ofChange fnExactWrappedSignatureSpec)

/-- ITS FALSE NEIGHBOUR: 'it returns false'. Refute it at one input. -/
def fnExactWrappedSignatureWrong : ChangeSpec := { name := "fnExactWrappedSignature", fn := fun _ => fun
  | [d1, d2] => { results := [.lit (.bool false)], args := [d1, d2] }
  | _ => none }
def FnExactWrappedSignatureWrongFalsely : Prop := fnExactWrappedSignatureRow.holds Try.pinned (OpenSpec.ofChange fnExactWrappedSignatureWrong)

/-- 'laws.FnWrappedSignatureNone': WHATEVER THE INPUT: true; the input reads as it did. -/
def fnWrappedSignatureNoneSpec : ChangeSpec := { name := "fnWrappedSignatureNone", fn := fun _ => fun
  | [d] => { results := [.lit (.bool true)], args := [d] }
  | _ => none }
def fnWrappedSignatureNoneRow : OpenClaim := { program := "ytlpmggokgcphiaa", sum := "abe43f522f6c1b259bf937db1ff2c0fc9509e82618aaa4192868a332d626d5dd", func := "loop.example/callbinding/laws.FnWrappedSignatureNone", spec := "fnWrappedSignatureNone", unfollowed := true, recurses := true, apart := false }
def FnWrappedSignatureNoneSaid : Prop := fnWrappedSignatureNoneRow.holds Try.pinned (OpenSpec.ofChange fnWrappedSignatureNoneSpec)

/-- ITS FALSE NEIGHBOUR: 'it returns false'. Refute it at one input. -/
def fnWrappedSignatureNoneWrong : ChangeSpec := { name := "fnWrappedSignatureNone", fn := fun _ => fun
  | [d] => { results := [.lit (.bool false)], args := [d] }
  | _ => none }
def FnWrappedSignatureNoneWrongFalsely : Prop := fnWrappedSignatureNoneRow.holds Try.pinned (OpenSpec.ofChange fnWrappedSignatureNoneWrong)

/-- 'laws.FnNeededParams': WHATEVER THE INPUT: true; the input reads as it did. -/
def fnNeededParamsSpec : ChangeSpec := { name := "fnNeededParams", fn := fun _ => fun
  | [d] => { results := [.lit (.bool true)], args := [d] }
  | _ => none }
def fnNeededParamsRow : OpenClaim := { program := "ytlpmggokgcphiaa", sum := "abe43f522f6c1b259bf937db1ff2c0fc9509e82618aaa4192868a332d626d5dd", func := "loop.example/callbinding/laws.FnNeededParams", spec := "fnNeededParams", unfollowed := true, recurses := true, apart := false }
def FnNeededParamsSaid : Prop := fnNeededParamsRow.holds Try.pinned (OpenSpec.ofChange fnNeededParamsSpec)

/-- ITS FALSE NEIGHBOUR: 'it returns false'. Refute it at one input. -/
def fnNeededParamsWrong : ChangeSpec := { name := "fnNeededParams", fn := fun _ => fun
  | [d] => { results := [.lit (.bool false)], args := [d] }
  | _ => none }
def FnNeededParamsWrongFalsely : Prop := fnNeededParamsRow.holds Try.pinned (OpenSpec.ofChange fnNeededParamsWrong)

/-- 'laws.FnTakesName': WHATEVER THE INPUT: true; the input reads as it did. -/
def fnTakesNameSpec : ChangeSpec := { name := "fnTakesName", fn := fun _ => fun
  | [d] => { results := [.lit (.bool true)], args := [d] }
  | _ => none }
def fnTakesNameRow : OpenClaim := { program := "ytlpmggokgcphiaa", sum := "abe43f522f6c1b259bf937db1ff2c0fc9509e82618aaa4192868a332d626d5dd", func := "loop.example/callbinding/laws.FnTakesName", spec := "fnTakesName", unfollowed := true, recurses := true, apart := false }
def FnTakesNameSaid : Prop := fnTakesNameRow.holds Try.pinned (OpenSpec.ofChange fnTakesNameSpec)

/-- ITS FALSE NEIGHBOUR: 'it returns false'. Refute it at one input. -/
def fnTakesNameWrong : ChangeSpec := { name := "fnTakesName", fn := fun _ => fun
  | [d] => { results := [.lit (.bool false)], args := [d] }
  | _ => none }
def FnTakesNameWrongFalsely : Prop := fnTakesNameRow.holds Try.pinned (OpenSpec.ofChange fnTakesNameWrong)

/- THE SECOND FORM. 'bulk': how many values and letters a reading holds, each counted each time it is reached (what is shared counts as often as it is met; a slice's spare places count too). A statement '..UptoSaid' is the law's where the arguments, and the package variables that the reading takes, are together of bulk at most 1048576: NARROWER than '..Said'. Prove '..Said' where nothing that the law and all that it calls make is longer than what came in: it says more and counts as full. Else prove '..UptoSaid'. A law counts once. -/
mutual
def uptoBulk {H : Type} : DataW H → Nat
  | .lit (.string bytes) => bytes.length + 1
  | .lit _ => 1
  | .nil => 1
  | .ptr d => uptoBulk d + 1
  | .slice elems spare => uptoBulkAll elems + uptoBulkAll spare + 1
  | .agg parts => uptoBulkAll parts + 1
  | .iface _ d => uptoBulk d + 1
  | .map entries => uptoBulkEntries entries + 1
  | .held _ => 1
def uptoBulkAll {H : Type} : List (DataW H) → Nat
  | [] => 0
  | d :: r => uptoBulk d + uptoBulkAll r
def uptoBulkEntries {H : Type} : List (Lit × DataW H) → Nat
  | [] => 0
  | x :: r => uptoBulkEntry x + uptoBulkEntries r
def uptoBulkEntry {H : Type} : Lit × DataW H → Nat
  | (.string bytes, d) => bytes.length + uptoBulk d + 1
  | (_, d) => uptoBulk d + 1
 end
def uptoSmall : (H : Type) → List (DataW H) → Bool := fun _ ds => decide (uptoBulkAll ds ≤ 1048576)
def OpenSpec.upto (s : _root_.Go.ChangeSpec) : _root_.Go.OpenSpec := { _root_.Go.OpenSpec.ofChange s with cond := some uptoSmall }

/-- 'laws.FnDropParam', WHERE WHAT IT READS IS OF BULK AT MOST 1048576: true; the input reads as it did. -/
def fnDropParamUptoRow : OpenClaim := { program := "ytlpmggokgcphiaa", sum := "abe43f522f6c1b259bf937db1ff2c0fc9509e82618aaa4192868a332d626d5dd", func := "loop.example/callbinding/laws.FnDropParam", spec := "fnDropParam", unfollowed := true, recurses := true, apart := false, narrowed := true }
def FnDropParamUptoSaid : Prop := fnDropParamUptoRow.holds Try.pinned (OpenSpec.upto fnDropParamSpec)

/-- 'laws.FnAddParam', WHERE WHAT IT READS IS OF BULK AT MOST 1048576: true; the input reads as it did. -/
def fnAddParamUptoRow : OpenClaim := { program := "ytlpmggokgcphiaa", sum := "abe43f522f6c1b259bf937db1ff2c0fc9509e82618aaa4192868a332d626d5dd", func := "loop.example/callbinding/laws.FnAddParam", spec := "fnAddParam", unfollowed := true, recurses := true, apart := false, narrowed := true }
def FnAddParamUptoSaid : Prop := fnAddParamUptoRow.holds Try.pinned (OpenSpec.upto fnAddParamSpec)

/-- 'laws.FnExactDropParam', WHERE WHAT IT READS IS OF BULK AT MOST 1048576: true; the input reads as it did. -/
def fnExactDropParamUptoRow : OpenClaim := { program := "ytlpmggokgcphiaa", sum := "abe43f522f6c1b259bf937db1ff2c0fc9509e82618aaa4192868a332d626d5dd", func := "loop.example/callbinding/laws.FnExactDropParam", spec := "fnExactDropParam", unfollowed := true, recurses := true, apart := false, narrowed := true }
def FnExactDropParamUptoSaid : Prop := fnExactDropParamUptoRow.holds Try.pinned (OpenSpec.upto fnExactDropParamSpec)

/-- 'laws.FnRenameParam', WHERE WHAT IT READS IS OF BULK AT MOST 1048576: true; the input reads as it did. -/
def fnRenameParamUptoRow : OpenClaim := { program := "ytlpmggokgcphiaa", sum := "abe43f522f6c1b259bf937db1ff2c0fc9509e82618aaa4192868a332d626d5dd", func := "loop.example/callbinding/laws.FnRenameParam", spec := "fnRenameParam", unfollowed := true, recurses := true, apart := false, narrowed := true }
def FnRenameParamUptoSaid : Prop := fnRenameParamUptoRow.holds Try.pinned (OpenSpec.upto fnRenameParamSpec)

/-- 'laws.FnExactRenameParam', WHERE WHAT IT READS IS OF BULK AT MOST 1048576: true; the input reads as it did. -/
def fnExactRenameParamUptoRow : OpenClaim := { program := "ytlpmggokgcphiaa", sum := "abe43f522f6c1b259bf937db1ff2c0fc9509e82618aaa4192868a332d626d5dd", func := "loop.example/callbinding/laws.FnExactRenameParam", spec := "fnExactRenameParam", unfollowed := true, recurses := true, apart := false, narrowed := true }
def FnExactRenameParamUptoSaid : Prop := fnExactRenameParamUptoRow.holds Try.pinned (OpenSpec.upto fnExactRenameParamSpec)

/-- 'laws.FnExactSetDefault', WHERE WHAT IT READS IS OF BULK AT MOST 1048576: true; the input reads as it did. -/
def fnExactSetDefaultUptoRow : OpenClaim := { program := "ytlpmggokgcphiaa", sum := "abe43f522f6c1b259bf937db1ff2c0fc9509e82618aaa4192868a332d626d5dd", func := "loop.example/callbinding/laws.FnExactSetDefault", spec := "fnExactSetDefault", unfollowed := true, recurses := true, apart := false, narrowed := true }
def FnExactSetDefaultUptoSaid : Prop := fnExactSetDefaultUptoRow.holds Try.pinned (OpenSpec.upto fnExactSetDefaultSpec)

/-- 'laws.FnExactClearDefault', WHERE WHAT IT READS IS OF BULK AT MOST 1048576: true; the input reads as it did. -/
def fnExactClearDefaultUptoRow : OpenClaim := { program := "ytlpmggokgcphiaa", sum := "abe43f522f6c1b259bf937db1ff2c0fc9509e82618aaa4192868a332d626d5dd", func := "loop.example/callbinding/laws.FnExactClearDefault", spec := "fnExactClearDefault", unfollowed := true, recurses := true, apart := false, narrowed := true }
def FnExactClearDefaultUptoSaid : Prop := fnExactClearDefaultUptoRow.holds Try.pinned (OpenSpec.upto fnExactClearDefaultSpec)

/-- 'laws.FnExactAddParam', WHERE WHAT IT READS IS OF BULK AT MOST 1048576: true; the input reads as it did. -/
def fnExactAddParamUptoRow : OpenClaim := { program := "ytlpmggokgcphiaa", sum := "abe43f522f6c1b259bf937db1ff2c0fc9509e82618aaa4192868a332d626d5dd", func := "loop.example/callbinding/laws.FnExactAddParam", spec := "fnExactAddParam", unfollowed := true, recurses := true, apart := false, narrowed := true }
def FnExactAddParamUptoSaid : Prop := fnExactAddParamUptoRow.holds Try.pinned (OpenSpec.upto fnExactAddParamSpec)

/-- 'laws.FnExactWrappedSignature', WHERE WHAT IT READS IS OF BULK AT MOST 1048576: true; the input reads as it did. -/
def fnExactWrappedSignatureUptoRow : OpenClaim := { program := "ytlpmggokgcphiaa", sum := "abe43f522f6c1b259bf937db1ff2c0fc9509e82618aaa4192868a332d626d5dd", func := "loop.example/callbinding/laws.FnExactWrappedSignature", spec := "fnExactWrappedSignature", unfollowed := true, recurses := true, apart := false, narrowed := true }
def FnExactWrappedSignatureUptoSaid : Prop := fnExactWrappedSignatureUptoRow.holds Try.pinned (OpenSpec.upto fnExactWrappedSignatureSpec)

/-- 'laws.FnWrappedSignatureNone', WHERE WHAT IT READS IS OF BULK AT MOST 1048576: true; the input reads as it did. -/
def fnWrappedSignatureNoneUptoRow : OpenClaim := { program := "ytlpmggokgcphiaa", sum := "abe43f522f6c1b259bf937db1ff2c0fc9509e82618aaa4192868a332d626d5dd", func := "loop.example/callbinding/laws.FnWrappedSignatureNone", spec := "fnWrappedSignatureNone", unfollowed := true, recurses := true, apart := false, narrowed := true }
def FnWrappedSignatureNoneUptoSaid : Prop := fnWrappedSignatureNoneUptoRow.holds Try.pinned (OpenSpec.upto fnWrappedSignatureNoneSpec)

/-- 'laws.FnNeededParams', WHERE WHAT IT READS IS OF BULK AT MOST 1048576: true; the input reads as it did. -/
def fnNeededParamsUptoRow : OpenClaim := { program := "ytlpmggokgcphiaa", sum := "abe43f522f6c1b259bf937db1ff2c0fc9509e82618aaa4192868a332d626d5dd", func := "loop.example/callbinding/laws.FnNeededParams", spec := "fnNeededParams", unfollowed := true, recurses := true, apart := false, narrowed := true }
def FnNeededParamsUptoSaid : Prop := fnNeededParamsUptoRow.holds Try.pinned (OpenSpec.upto fnNeededParamsSpec)

/-- 'laws.FnTakesName', WHERE WHAT IT READS IS OF BULK AT MOST 1048576: true; the input reads as it did. -/
def fnTakesNameUptoRow : OpenClaim := { program := "ytlpmggokgcphiaa", sum := "abe43f522f6c1b259bf937db1ff2c0fc9509e82618aaa4192868a332d626d5dd", func := "loop.example/callbinding/laws.FnTakesName", spec := "fnTakesName", unfollowed := true, recurses := true, apart := false, narrowed := true }
def FnTakesNameUptoSaid : Prop := fnTakesNameUptoRow.holds Try.pinned (OpenSpec.upto fnTakesNameSpec)

end Rows
end Go.Proofs.Ytlpmggokgcphiaa
