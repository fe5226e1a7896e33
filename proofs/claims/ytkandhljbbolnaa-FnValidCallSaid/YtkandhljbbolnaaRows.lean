/-
  No cell of these rows narrows 'for every input' (looked for: loops, veiled, ifaces, maps, wideKeys, modest, calm, conditions, laid).
  DERIVED. THE GIVEN ROWS OF THIS SEAT. 12 by the template 'for every input the law returns true; each argument reads behind the call as it read before'; 0 by the template 'total and deterministic' (their statements: YtkandhljbbolnaaTotals.lean).
  GIVEN WITH THE SEED: the statements are not yours to turn. If you find one false, say at which input.
  Laid BY PROGRAM, IN A SANDBOX (cutbox-rows.mjs): the forced cells as the released guide's own fill.sh prints them over the translation 027b5632aff2e578… (all of the seat's roots in one cut). By AI agents, Wed Nov 11 2026. No macro, syntax, notation, axiom, sorry.
-/
import Derived.Test.YtkandhljbbolnaaChecked
import GoSem.Claim
import GoSem.ClaimJoined
import GoSem.ClaimMapViews
import Derived.JoinedTies
import Derived.KernelRfl
namespace Go.Proofs.Ytkandhljbbolnaa
/- THE CELL 'sum', in the pinned program and in every row, IS THE sha256 OF THE DUMP (.gsa) THAT YtkandhljbbolnaaProg.lean LOADS. Nothing in Lean hashes anything: it is a label: what it is worth is what the hold of that sum in a sandbox is worth. -/
noncomputable def Try.pinned : Pinned := { name := "ytkandhljbbolnaa", sum := "027b5632aff2e57855f16857d75b6a172e92176c94cf88b1fe88c3a079665d89", checked := Try.checked }
namespace Rows
def none {H : Type} : Left H := { results := [], args := [] }

/-- 'laws.FnExactValidFlat': WHATEVER THE INPUT: true; the input reads as it did. -/
def fnExactValidFlatSpec : ChangeSpec := { name := "fnExactValidFlat", fn := fun _ => fun
  | [d] => { results := [.lit (.bool true)], args := [d] }
  | _ => none }
def fnExactValidFlatRow : OpenClaim := { program := "ytkandhljbbolnaa", sum := "027b5632aff2e57855f16857d75b6a172e92176c94cf88b1fe88c3a079665d89", func := "loop.example/callbinding/laws.FnExactValidFlat", spec := "fnExactValidFlat", unfollowed := true, recurses := true, apart := false }
def FnExactValidFlatSaid : Prop := fnExactValidFlatRow.holds Try.pinned (OpenSpec.ofChange fnExactValidFlatSpec)

/-- ITS FALSE NEIGHBOUR: 'it returns false'. Refute it at one input. -/
def fnExactValidFlatWrong : ChangeSpec := { name := "fnExactValidFlat", fn := fun _ => fun
  | [d] => { results := [.lit (.bool false)], args := [d] }
  | _ => none }
def FnExactValidFlatWrongFalsely : Prop := fnExactValidFlatRow.holds Try.pinned (OpenSpec.ofChange fnExactValidFlatWrong)

/-- 'laws.FnExactValidHoles': WHATEVER THE INPUT: true; the input reads as it did. -/
def fnExactValidHolesSpec : ChangeSpec := { name := "fnExactValidHoles", fn := fun _ => fun
  | [d] => { results := [.lit (.bool true)], args := [d] }
  | _ => none }
def fnExactValidHolesRow : OpenClaim := { program := "ytkandhljbbolnaa", sum := "027b5632aff2e57855f16857d75b6a172e92176c94cf88b1fe88c3a079665d89", func := "loop.example/callbinding/laws.FnExactValidHoles", spec := "fnExactValidHoles", unfollowed := true, recurses := true, apart := false }
def FnExactValidHolesSaid : Prop := fnExactValidHolesRow.holds Try.pinned (OpenSpec.ofChange fnExactValidHolesSpec)

/-- ITS FALSE NEIGHBOUR: 'it returns false'. Refute it at one input. -/
def fnExactValidHolesWrong : ChangeSpec := { name := "fnExactValidHoles", fn := fun _ => fun
  | [d] => { results := [.lit (.bool false)], args := [d] }
  | _ => none }
def FnExactValidHolesWrongFalsely : Prop := fnExactValidHolesRow.holds Try.pinned (OpenSpec.ofChange fnExactValidHolesWrong)

/-- 'laws.FnValidCall': WHATEVER THE INPUT: true; the input reads as it did. -/
def fnValidCallSpec : ChangeSpec := { name := "fnValidCall", fn := fun _ => fun
  | [d] => { results := [.lit (.bool true)], args := [d] }
  | _ => none }
def fnValidCallRow : OpenClaim := { program := "ytkandhljbbolnaa", sum := "027b5632aff2e57855f16857d75b6a172e92176c94cf88b1fe88c3a079665d89", func := "loop.example/callbinding/laws.FnValidCall", spec := "fnValidCall", unfollowed := true, recurses := true, apart := false }
def FnValidCallSaid : Prop := fnValidCallRow.holds Try.pinned (OpenSpec.ofChange fnValidCallSpec)

/-- ITS FALSE NEIGHBOUR: 'it returns false'. Refute it at one input. -/
def fnValidCallWrong : ChangeSpec := { name := "fnValidCall", fn := fun _ => fun
  | [d] => { results := [.lit (.bool false)], args := [d] }
  | _ => none }
def FnValidCallWrongFalsely : Prop := fnValidCallRow.holds Try.pinned (OpenSpec.ofChange fnValidCallWrong)

/-- 'laws.FnExactValidCall': WHATEVER THE INPUT: true; the input reads as it did. -/
def fnExactValidCallSpec : ChangeSpec := { name := "fnExactValidCall", fn := fun _ => fun
  | [d] => { results := [.lit (.bool true)], args := [d] }
  | _ => none }
def fnExactValidCallRow : OpenClaim := { program := "ytkandhljbbolnaa", sum := "027b5632aff2e57855f16857d75b6a172e92176c94cf88b1fe88c3a079665d89", func := "loop.example/callbinding/laws.FnExactValidCall", spec := "fnExactValidCall", unfollowed := true, recurses := true, apart := false }
def FnExactValidCallSaid : Prop := fnExactValidCallRow.holds Try.pinned (OpenSpec.ofChange fnExactValidCallSpec)

/-- ITS FALSE NEIGHBOUR: 'it returns false'. Refute it at one input. -/
def fnExactValidCallWrong : ChangeSpec := { name := "fnExactValidCall", fn := fun _ => fun
  | [d] => { results := [.lit (.bool false)], args := [d] }
  | _ => none }
def FnExactValidCallWrongFalsely : Prop := fnExactValidCallRow.holds Try.pinned (OpenSpec.ofChange fnExactValidCallWrong)

/-- 'laws.FnAddPlace': WHATEVER THE INPUT: true; the input reads as it did. -/
def fnAddPlaceSpec : ChangeSpec := { name := "fnAddPlace", fn := fun _ => fun
  | [d] => { results := [.lit (.bool true)], args := [d] }
  | _ => none }
def fnAddPlaceRow : OpenClaim := { program := "ytkandhljbbolnaa", sum := "027b5632aff2e57855f16857d75b6a172e92176c94cf88b1fe88c3a079665d89", func := "loop.example/callbinding/laws.FnAddPlace", spec := "fnAddPlace", unfollowed := true, recurses := true, apart := false }
def FnAddPlaceSaid : Prop := fnAddPlaceRow.holds Try.pinned (OpenSpec.ofChange fnAddPlaceSpec)

/-- ITS FALSE NEIGHBOUR: 'it returns false'. Refute it at one input. -/
def fnAddPlaceWrong : ChangeSpec := { name := "fnAddPlace", fn := fun _ => fun
  | [d] => { results := [.lit (.bool false)], args := [d] }
  | _ => none }
def FnAddPlaceWrongFalsely : Prop := fnAddPlaceRow.holds Try.pinned (OpenSpec.ofChange fnAddPlaceWrong)

/-- 'laws.FnExactAddPlace': WHATEVER THE INPUT: true; the input reads as it did. -/
def fnExactAddPlaceSpec : ChangeSpec := { name := "fnExactAddPlace", fn := fun _ => fun
  | [d1, d2] => { results := [.lit (.bool true)], args := [d1, d2] }
  | _ => none }
def fnExactAddPlaceRow : OpenClaim := { program := "ytkandhljbbolnaa", sum := "027b5632aff2e57855f16857d75b6a172e92176c94cf88b1fe88c3a079665d89", func := "loop.example/callbinding/laws.FnExactAddPlace", spec := "fnExactAddPlace", unfollowed := true, recurses := true, apart := false }
def FnExactAddPlaceSaid : Prop := fnExactAddPlaceRow.holds Try.pinned (OpenSpec.ofChange fnExactAddPlaceSpec)

/-- ITS FALSE NEIGHBOUR: 'it returns false'. Refute it at one input. -/
def fnExactAddPlaceWrong : ChangeSpec := { name := "fnExactAddPlace", fn := fun _ => fun
  | [d1, d2] => { results := [.lit (.bool false)], args := [d1, d2] }
  | _ => none }
def FnExactAddPlaceWrongFalsely : Prop := fnExactAddPlaceRow.holds Try.pinned (OpenSpec.ofChange fnExactAddPlaceWrong)

/-- 'laws.FnExactFlatOf': WHATEVER THE INPUT: true; the input reads as it did. -/
def fnExactFlatOfSpec : ChangeSpec := { name := "fnExactFlatOf", fn := fun _ => fun
  | [d] => { results := [.lit (.bool true)], args := [d] }
  | _ => none }
def fnExactFlatOfRow : OpenClaim := { program := "ytkandhljbbolnaa", sum := "027b5632aff2e57855f16857d75b6a172e92176c94cf88b1fe88c3a079665d89", func := "loop.example/callbinding/laws.FnExactFlatOf", spec := "fnExactFlatOf", apart := false }
def FnExactFlatOfSaid : Prop := fnExactFlatOfRow.holds Try.pinned (OpenSpec.ofChange fnExactFlatOfSpec)

/-- ITS FALSE NEIGHBOUR: 'it returns false'. Refute it at one input. -/
def fnExactFlatOfWrong : ChangeSpec := { name := "fnExactFlatOf", fn := fun _ => fun
  | [d] => { results := [.lit (.bool false)], args := [d] }
  | _ => none }
def FnExactFlatOfWrongFalsely : Prop := fnExactFlatOfRow.holds Try.pinned (OpenSpec.ofChange fnExactFlatOfWrong)

/-- 'laws.FnExactCountHoles': WHATEVER THE INPUT: true; the input reads as it did. -/
def fnExactCountHolesSpec : ChangeSpec := { name := "fnExactCountHoles", fn := fun _ => fun
  | [d] => { results := [.lit (.bool true)], args := [d] }
  | _ => none }
def fnExactCountHolesRow : OpenClaim := { program := "ytkandhljbbolnaa", sum := "027b5632aff2e57855f16857d75b6a172e92176c94cf88b1fe88c3a079665d89", func := "loop.example/callbinding/laws.FnExactCountHoles", spec := "fnExactCountHoles", unfollowed := true, recurses := true, apart := false }
def FnExactCountHolesSaid : Prop := fnExactCountHolesRow.holds Try.pinned (OpenSpec.ofChange fnExactCountHolesSpec)

/-- ITS FALSE NEIGHBOUR: 'it returns false'. Refute it at one input. -/
def fnExactCountHolesWrong : ChangeSpec := { name := "fnExactCountHoles", fn := fun _ => fun
  | [d] => { results := [.lit (.bool false)], args := [d] }
  | _ => none }
def FnExactCountHolesWrongFalsely : Prop := fnExactCountHolesRow.holds Try.pinned (OpenSpec.ofChange fnExactCountHolesWrong)

/-- 'laws.FnMethodFlat': WHATEVER THE INPUT: true; the input reads as it did. -/
def fnMethodFlatSpec : ChangeSpec := { name := "fnMethodFlat", fn := fun _ => fun
  | [d] => { results := [.lit (.bool true)], args := [d] }
  | _ => none }
def fnMethodFlatRow : OpenClaim := { program := "ytkandhljbbolnaa", sum := "027b5632aff2e57855f16857d75b6a172e92176c94cf88b1fe88c3a079665d89", func := "loop.example/callbinding/laws.FnMethodFlat", spec := "fnMethodFlat", unfollowed := true, recurses := true, apart := false }
def FnMethodFlatSaid : Prop := fnMethodFlatRow.holds Try.pinned (OpenSpec.ofChange fnMethodFlatSpec)

/-- ITS FALSE NEIGHBOUR: 'it returns false'. Refute it at one input. -/
def fnMethodFlatWrong : ChangeSpec := { name := "fnMethodFlat", fn := fun _ => fun
  | [d] => { results := [.lit (.bool false)], args := [d] }
  | _ => none }
def FnMethodFlatWrongFalsely : Prop := fnMethodFlatRow.holds Try.pinned (OpenSpec.ofChange fnMethodFlatWrong)

/-- 'laws.FnPutName': WHATEVER THE INPUT: true; the input reads as it did. -/
def fnPutNameSpec : ChangeSpec := { name := "fnPutName", fn := fun _ => fun
  | [d] => { results := [.lit (.bool true)], args := [d] }
  | _ => none }
def fnPutNameRow : OpenClaim := { program := "ytkandhljbbolnaa", sum := "027b5632aff2e57855f16857d75b6a172e92176c94cf88b1fe88c3a079665d89", func := "loop.example/callbinding/laws.FnPutName", spec := "fnPutName", unfollowed := true, recurses := true, apart := false }
def FnPutNameSaid : Prop := fnPutNameRow.holds Try.pinned (OpenSpec.ofChange fnPutNameSpec)

/-- ITS FALSE NEIGHBOUR: 'it returns false'. Refute it at one input. -/
def fnPutNameWrong : ChangeSpec := { name := "fnPutName", fn := fun _ => fun
  | [d] => { results := [.lit (.bool false)], args := [d] }
  | _ => none }
def FnPutNameWrongFalsely : Prop := fnPutNameRow.holds Try.pinned (OpenSpec.ofChange fnPutNameWrong)

/-- 'laws.FnExactPutName': WHATEVER THE INPUT: true; the input reads as it did. -/
def fnExactPutNameSpec : ChangeSpec := { name := "fnExactPutName", fn := fun _ => fun
  | [d1, d2, d3] => { results := [.lit (.bool true)], args := [d1, d2, d3] }
  | _ => none }
def fnExactPutNameRow : OpenClaim := { program := "ytkandhljbbolnaa", sum := "027b5632aff2e57855f16857d75b6a172e92176c94cf88b1fe88c3a079665d89", func := "loop.example/callbinding/laws.FnExactPutName", spec := "fnExactPutName", unfollowed := true, recurses := true, apart := false }
def FnExactPutNameSaid : Prop := fnExactPutNameRow.holds Try.pinned (OpenSpec.ofChange fnExactPutNameSpec)

/-- ITS FALSE NEIGHBOUR: 'it returns false'. Refute it at one input. -/
def fnExactPutNameWrong : ChangeSpec := { name := "fnExactPutName", fn := fun _ => fun
  | [d1, d2, d3] => { results := [.lit (.bool false)], args := [d1, d2, d3] }
  | _ => none }
def FnExactPutNameWrongFalsely : Prop := fnExactPutNameRow.holds Try.pinned (OpenSpec.ofChange fnExactPutNameWrong)

/-- 'laws.FnExactDropName': WHATEVER THE INPUT: true; the input reads as it did. -/
def fnExactDropNameSpec : ChangeSpec := { name := "fnExactDropName", fn := fun _ => fun
  | [d1, d2] => { results := [.lit (.bool true)], args := [d1, d2] }
  | _ => none }
def fnExactDropNameRow : OpenClaim := { program := "ytkandhljbbolnaa", sum := "027b5632aff2e57855f16857d75b6a172e92176c94cf88b1fe88c3a079665d89", func := "loop.example/callbinding/laws.FnExactDropName", spec := "fnExactDropName", unfollowed := true, recurses := true, apart := false }
def FnExactDropNameSaid : Prop := fnExactDropNameRow.holds Try.pinned (OpenSpec.ofChange fnExactDropNameSpec)

/-- ITS FALSE NEIGHBOUR: 'it returns false'. Refute it at one input. -/
def fnExactDropNameWrong : ChangeSpec := { name := "fnExactDropName", fn := fun _ => fun
  | [d1, d2] => { results := [.lit (.bool false)], args := [d1, d2] }
  | _ => none }
def FnExactDropNameWrongFalsely : Prop := fnExactDropNameRow.holds Try.pinned (OpenSpec.ofChange fnExactDropNameWrong)

/- THE SECOND FORM. 'bulk': how many values and letters a reading holds, each counted each time it is reached (what is shared counts as often as it is met; a slice's spare places count too). A statement '..UptoSaid' is the law's where the arguments, and the package variables that the reading takes, are together of bulk at most 1048576: NARROWER than '..Said'. Prove '..Said' where nothing that the law and all that it calls make is longer than what came in: it says more and counts as full. Else prove '..UptoSaid'. A law counts once. -/
mutual
def uptoBulk {H : Type} : DataW H → Nat
  | .lit (.string bytes) => bytes.length + 1
  | .lit _ => 1
  | .nil => 1
  | .ptr d => uptoBulk d + 1
  | .slice elems spare => uptoBulkAll elems + uptoBulkAll spare + 1
  | .agg parts => uptoBulkAll parts + 1
  | .iface _ d => uptoBulk d + 1
  | .map entries => uptoBulkEntries entries + 1
  | .held _ => 1
def uptoBulkAll {H : Type} : List (DataW H) → Nat
  | [] => 0
  | d :: r => uptoBulk d + uptoBulkAll r
def uptoBulkEntries {H : Type} : List (Lit × DataW H) → Nat
  | [] => 0
  | x :: r => uptoBulkEntry x + uptoBulkEntries r
def uptoBulkEntry {H : Type} : Lit × DataW H → Nat
  | (.string bytes, d) => bytes.length + uptoBulk d + 1
  | (_, d) => uptoBulk d + 1
 end
def uptoSmall : (H : Type) → List (DataW H) → Bool := fun _ ds => decide (uptoBulkAll ds ≤ 1048576)
def OpenSpec.upto (s : _root_.Go.ChangeSpec) : _root_.Go.OpenSpec := { _root_.Go.OpenSpec.ofChange s with cond := some uptoSmall }

/-- 'laws.FnExactValidFlat', WHERE WHAT IT READS IS OF BULK AT MOST 1048576: true; the input reads as it did. -/
def fnExactValidFlatUptoRow : OpenClaim := { program := "ytkandhljbbolnaa", sum := "027b5632aff2e57855f16857d75b6a172e92176c94cf88b1fe88c3a079665d89", func := "loop.example/callbinding/laws.FnExactValidFlat", spec := "fnExactValidFlat", unfollowed := true, recurses := true, apart := false, narrowed := true }
def FnExactValidFlatUptoSaid : Prop := fnExactValidFlatUptoRow.holds Try.pinned (OpenSpec.upto fnExactValidFlatSpec)

/-- 'laws.FnExactValidHoles', WHERE WHAT IT READS IS OF BULK AT MOST 1048576: true; the input reads as it did. -/
def fnExactValidHolesUptoRow : OpenClaim := { program := "ytkandhljbbolnaa", sum := "027b5632aff2e57855f16857d75b6a172e92176c94cf88b1fe88c3a079665d89", func := "loop.example/callbinding/laws.FnExactValidHoles", spec := "fnExactValidHoles", unfollowed := true, recurses := true, apart := false, narrowed := true }
def FnExactValidHolesUptoSaid : Prop := fnExactValidHolesUptoRow.holds Try.pinned (OpenSpec.upto fnExactValidHolesSpec)

/-- 'laws.FnValidCall', WHERE WHAT IT READS IS OF BULK AT MOST 1048576: true; the input reads as it did. -/
def fnValidCallUptoRow : OpenClaim := { program := "ytkandhljbbolnaa", sum := "027b5632aff2e57855f16857d75b6a172e92176c94cf88b1fe88c3a079665d89", func := "loop.example/callbinding/laws.FnValidCall", spec := "fnValidCall", unfollowed := true, recurses := true, apart := false, narrowed := true }
def FnValidCallUptoSaid : Prop := fnValidCallUptoRow.holds Try.pinned (OpenSpec.upto fnValidCallSpec)

/-- 'laws.FnExactValidCall', WHERE WHAT IT READS IS OF BULK AT MOST 1048576: true; the input reads as it did. -/
def fnExactValidCallUptoRow : OpenClaim := { program := "ytkandhljbbolnaa", sum := "027b5632aff2e57855f16857d75b6a172e92176c94cf88b1fe88c3a079665d89", func := "loop.example/callbinding/laws.FnExactValidCall", spec := "fnExactValidCall", unfollowed := true, recurses := true, apart := false, narrowed := true }
def FnExactValidCallUptoSaid : Prop := fnExactValidCallUptoRow.holds Try.pinned (OpenSpec.upto fnExactValidCallSpec)

/-- 'laws.FnAddPlace', WHERE WHAT IT READS IS OF BULK AT MOST 1048576: true; the input reads as it did. -/
def fnAddPlaceUptoRow : OpenClaim := { program := "ytkandhljbbolnaa", sum := "027b5632aff2e57855f16857d75b6a172e92176c94cf88b1fe88c3a079665d89", func := "loop.example/callbinding/laws.FnAddPlace", spec := "fnAddPlace", unfollowed := true, recurses := true, apart := false, narrowed := true }
def FnAddPlaceUptoSaid : Prop := fnAddPlaceUptoRow.holds Try.pinned (OpenSpec.upto fnAddPlaceSpec)

/-- 'laws.FnExactAddPlace', WHERE WHAT IT READS IS OF BULK AT MOST 1048576: true; the input reads as it did. -/
def fnExactAddPlaceUptoRow : OpenClaim := { program := "ytkandhljbbolnaa", sum := "027b5632aff2e57855f16857d75b6a172e92176c94cf88b1fe88c3a079665d89", func := "loop.example/callbinding/laws.FnExactAddPlace", spec := "fnExactAddPlace", unfollowed := true, recurses := true, apart := false, narrowed := true }
def FnExactAddPlaceUptoSaid : Prop := fnExactAddPlaceUptoRow.holds Try.pinned (OpenSpec.upto fnExactAddPlaceSpec)

/-- 'laws.FnExactFlatOf', WHERE WHAT IT READS IS OF BULK AT MOST 1048576: true; the input reads as it did. -/
def fnExactFlatOfUptoRow : OpenClaim := { program := "ytkandhljbbolnaa", sum := "027b5632aff2e57855f16857d75b6a172e92176c94cf88b1fe88c3a079665d89", func := "loop.example/callbinding/laws.FnExactFlatOf", spec := "fnExactFlatOf", apart := false, narrowed := true }
def FnExactFlatOfUptoSaid : Prop := fnExactFlatOfUptoRow.holds Try.pinned (OpenSpec.upto fnExactFlatOfSpec)

/-- 'laws.FnExactCountHoles', WHERE WHAT IT READS IS OF BULK AT MOST 1048576: true; the input reads as it did. -/
def fnExactCountHolesUptoRow : OpenClaim := { program := "ytkandhljbbolnaa", sum := "027b5632aff2e57855f16857d75b6a172e92176c94cf88b1fe88c3a079665d89", func := "loop.example/callbinding/laws.FnExactCountHoles", spec := "fnExactCountHoles", unfollowed := true, recurses := true, apart := false, narrowed := true }
def FnExactCountHolesUptoSaid : Prop := fnExactCountHolesUptoRow.holds Try.pinned (OpenSpec.upto fnExactCountHolesSpec)

/-- 'laws.FnMethodFlat', WHERE WHAT IT READS IS OF BULK AT MOST 1048576: true; the input reads as it did. -/
def fnMethodFlatUptoRow : OpenClaim := { program := "ytkandhljbbolnaa", sum := "027b5632aff2e57855f16857d75b6a172e92176c94cf88b1fe88c3a079665d89", func := "loop.example/callbinding/laws.FnMethodFlat", spec := "fnMethodFlat", unfollowed := true, recurses := true, apart := false, narrowed := true }
def FnMethodFlatUptoSaid : Prop := fnMethodFlatUptoRow.holds Try.pinned (OpenSpec.upto fnMethodFlatSpec)

/-- 'laws.FnPutName', WHERE WHAT IT READS IS OF BULK AT MOST 1048576: true; the input reads as it did. -/
def fnPutNameUptoRow : OpenClaim := { program := "ytkandhljbbolnaa", sum := "027b5632aff2e57855f16857d75b6a172e92176c94cf88b1fe88c3a079665d89", func := "loop.example/callbinding/laws.FnPutName", spec := "fnPutName", unfollowed := true, recurses := true, apart := false, narrowed := true }
def FnPutNameUptoSaid : Prop := fnPutNameUptoRow.holds Try.pinned (OpenSpec.upto fnPutNameSpec)

/-- 'laws.FnExactPutName', WHERE WHAT IT READS IS OF BULK AT MOST 1048576: true; the input reads as it did. -/
def fnExactPutNameUptoRow : OpenClaim := { program := "ytkandhljbbolnaa", sum := "027b5632aff2e57855f16857d75b6a172e92176c94cf88b1fe88c3a079665d89", func := "loop.example/callbinding/laws.FnExactPutName", spec := "fnExactPutName", unfollowed := true, recurses := true, apart := false, narrowed := true }
def FnExactPutNameUptoSaid : Prop := fnExactPutNameUptoRow.holds Try.pinned (OpenSpec.upto fnExactPutNameSpec)

/-- 'laws.FnExactDropName', WHERE WHAT IT READS IS OF BULK AT MOST 1048576: true; the input reads as it did. -/
def fnExactDropNameUptoRow : OpenClaim := { program := "ytkandhljbbolnaa", sum := "027b5632aff2e57855f16857d75b6a172e92176c94cf88b1fe88c3a079665d89", func := "loop.example/callbinding/laws.FnExactDropName", spec := "fnExactDropName", unfollowed := true, recurses := true, apart := false, narrowed := true }
def FnExactDropNameUptoSaid : Prop := fnExactDropNameUptoRow.holds Try.pinned (OpenSpec.upto fnExactDropNameSpec)

end Rows
end Go.Proofs.Ytkandhljbbolnaa
