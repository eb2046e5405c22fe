/-
  No cell of these rows narrows 'for every input' (looked for: loops, veiled, ifaces, maps, wideKeys, modest, calm, conditions, laid).
  DERIVED. THE GIVEN ROWS OF THIS SEAT. 11 by the template 'for every input the law returns true; each argument reads behind the call as it read before'; 0 by the template 'total and deterministic' (their statements: YtkobbccjjglfmaaTotals.lean).
  GIVEN WITH THE SEED: the statements are not yours to turn. If you find one false, say at which input.
  Laid BY PROGRAM, IN A SANDBOX (cutbox-rows.mjs): the forced cells as the released guide's own fill.sh prints them over the translation 56be8b9565e4f58e… (all of the seat's roots in one cut). By AI agents, Wed Nov 11 2026. No macro, syntax, notation, axiom, sorry.
-/
import Derived.Test.YtkobbccjjglfmaaChecked
import GoSem.Claim
import GoSem.ClaimJoined
import GoSem.ClaimMapViews
import Derived.JoinedTies
import Derived.KernelRfl
namespace Go.Proofs.Ytkobbccjjglfmaa
/- THE CELL 'sum', in the pinned program and in every row, IS THE sha256 OF THE DUMP (.gsa) THAT YtkobbccjjglfmaaProg.lean LOADS. Nothing in Lean hashes anything: it is a label: what it is worth is what the hold of that sum in a sandbox is worth. -/
noncomputable def Try.pinned : Pinned := { name := "ytkobbccjjglfmaa", sum := "56be8b9565e4f58e87d24e2bafa114710c608aa8bf93dcd44cc5ecbacca3daa1", checked := Try.checked }
namespace Rows
def none {H : Type} : Left H := { results := [], args := [] }

/-- 'laws.FnExactNodeText': WHATEVER THE INPUT: true; the input reads as it did. -/
def fnExactNodeTextSpec : ChangeSpec := { name := "fnExactNodeText", fn := fun _ => fun
  | [d] => { results := [.lit (.bool true)], args := [d] }
  | _ => none }
def fnExactNodeTextRow : OpenClaim := { program := "ytkobbccjjglfmaa", sum := "56be8b9565e4f58e87d24e2bafa114710c608aa8bf93dcd44cc5ecbacca3daa1", func := "loop.example/g00240/laws.FnExactNodeText", spec := "fnExactNodeText", unfollowed := true, recurses := true, apart := false }
def FnExactNodeTextSaid : Prop := fnExactNodeTextRow.holds Try.pinned (OpenSpec.ofChange fnExactNodeTextSpec)

/-- ITS FALSE NEIGHBOUR: 'it returns false'. Refute it at one input. -/
def fnExactNodeTextWrong : ChangeSpec := { name := "fnExactNodeText", fn := fun _ => fun
  | [d] => { results := [.lit (.bool false)], args := [d] }
  | _ => none }
def FnExactNodeTextWrongFalsely : Prop := fnExactNodeTextRow.holds Try.pinned (OpenSpec.ofChange fnExactNodeTextWrong)

/-- 'laws.FnExactFallDisk': WHATEVER THE INPUT: true; the input reads as it did. -/
def fnExactFallDiskSpec : ChangeSpec := { name := "fnExactFallDisk", fn := fun _ => fun
  | [d1, d2, d3] => { results := [.lit (.bool true)], args := [d1, d2, d3] }
  | _ => none }
def fnExactFallDiskRow : OpenClaim := { program := "ytkobbccjjglfmaa", sum := "56be8b9565e4f58e87d24e2bafa114710c608aa8bf93dcd44cc5ecbacca3daa1", func := "loop.example/g00240/laws.FnExactFallDisk", spec := "fnExactFallDisk", unfollowed := true, recurses := true, apart := false }
def FnExactFallDiskSaid : Prop := fnExactFallDiskRow.holds Try.pinned (OpenSpec.ofChange fnExactFallDiskSpec)

/-- ITS FALSE NEIGHBOUR: 'it returns false'. Refute it at one input. -/
def fnExactFallDiskWrong : ChangeSpec := { name := "fnExactFallDisk", fn := fun _ => fun
  | [d1, d2, d3] => { results := [.lit (.bool false)], args := [d1, d2, d3] }
  | _ => none }
def FnExactFallDiskWrongFalsely : Prop := fnExactFallDiskRow.holds Try.pinned (OpenSpec.ofChange fnExactFallDiskWrong)

/-- 'laws.FnSchemas': WHATEVER THE INPUT: true; the input reads as it did. -/
def fnSchemasSpec : ChangeSpec := { name := "fnSchemas", fn := fun _ => fun
  | [d] => { results := [.lit (.bool true)], args := [d] }
  | _ => none }
def fnSchemasRow : OpenClaim := { program := "ytkobbccjjglfmaa", sum := "56be8b9565e4f58e87d24e2bafa114710c608aa8bf93dcd44cc5ecbacca3daa1", func := "loop.example/g00240/laws.FnSchemas", spec := "fnSchemas", unfollowed := true, recurses := true, apart := false }
def FnSchemasSaid : Prop := fnSchemasRow.holds Try.pinned (OpenSpec.ofChange fnSchemasSpec)

/-- ITS FALSE NEIGHBOUR: 'it returns false'. Refute it at one input. -/
def fnSchemasWrong : ChangeSpec := { name := "fnSchemas", fn := fun _ => fun
  | [d] => { results := [.lit (.bool false)], args := [d] }
  | _ => none }
def FnSchemasWrongFalsely : Prop := fnSchemasRow.holds Try.pinned (OpenSpec.ofChange fnSchemasWrong)

/-- 'laws.FnExactThingOk': WHATEVER THE INPUT: true; the input reads as it did. -/
def fnExactThingOkSpec : ChangeSpec := { name := "fnExactThingOk", fn := fun _ => fun
  | [d1, d2] => { results := [.lit (.bool true)], args := [d1, d2] }
  | _ => none }
def fnExactThingOkRow : OpenClaim := { program := "ytkobbccjjglfmaa", sum := "56be8b9565e4f58e87d24e2bafa114710c608aa8bf93dcd44cc5ecbacca3daa1", func := "loop.example/g00240/laws.FnExactThingOk", spec := "fnExactThingOk", inPlace := ["internal/bytealg.IndexByteString", "internal/bytealg.IndexString"], unfollowed := true, recurses := true, named := ["internal/bytealg.MaxLen"], apart := false }
def FnExactThingOkSaid : Prop := fnExactThingOkRow.holds Try.pinned (OpenSpec.ofChange fnExactThingOkSpec)

/-- ITS FALSE NEIGHBOUR: 'it returns false'. Refute it at one input. -/
def fnExactThingOkWrong : ChangeSpec := { name := "fnExactThingOk", fn := fun _ => fun
  | [d1, d2] => { results := [.lit (.bool false)], args := [d1, d2] }
  | _ => none }
def FnExactThingOkWrongFalsely : Prop := fnExactThingOkRow.holds Try.pinned (OpenSpec.ofChange fnExactThingOkWrong)

/-- 'laws.FnExactThingText': WHATEVER THE INPUT: true; the input reads as it did. -/
def fnExactThingTextSpec : ChangeSpec := { name := "fnExactThingText", fn := fun _ => fun
  | [d1, d2] => { results := [.lit (.bool true)], args := [d1, d2] }
  | _ => none }
def fnExactThingTextRow : OpenClaim := { program := "ytkobbccjjglfmaa", sum := "56be8b9565e4f58e87d24e2bafa114710c608aa8bf93dcd44cc5ecbacca3daa1", func := "loop.example/g00240/laws.FnExactThingText", spec := "fnExactThingText", inPlace := ["internal/bytealg.IndexByteString", "internal/bytealg.IndexString"], unfollowed := true, recurses := true, named := ["internal/bytealg.MaxLen"], apart := false }
def FnExactThingTextSaid : Prop := fnExactThingTextRow.holds Try.pinned (OpenSpec.ofChange fnExactThingTextSpec)

/-- ITS FALSE NEIGHBOUR: 'it returns false'. Refute it at one input. -/
def fnExactThingTextWrong : ChangeSpec := { name := "fnExactThingText", fn := fun _ => fun
  | [d1, d2] => { results := [.lit (.bool false)], args := [d1, d2] }
  | _ => none }
def FnExactThingTextWrongFalsely : Prop := fnExactThingTextRow.holds Try.pinned (OpenSpec.ofChange fnExactThingTextWrong)

/-- 'laws.FnExactReadMeta': WHATEVER THE INPUT: true; the input reads as it did. -/
def fnExactReadMetaSpec : ChangeSpec := { name := "fnExactReadMeta", fn := fun _ => fun
  | [d] => { results := [.lit (.bool true)], args := [d] }
  | _ => none }
def fnExactReadMetaRow : OpenClaim := { program := "ytkobbccjjglfmaa", sum := "56be8b9565e4f58e87d24e2bafa114710c608aa8bf93dcd44cc5ecbacca3daa1", func := "loop.example/g00240/laws.FnExactReadMeta", spec := "fnExactReadMeta", apart := false }
def FnExactReadMetaSaid : Prop := fnExactReadMetaRow.holds Try.pinned (OpenSpec.ofChange fnExactReadMetaSpec)

/-- ITS FALSE NEIGHBOUR: 'it returns false'. Refute it at one input. -/
def fnExactReadMetaWrong : ChangeSpec := { name := "fnExactReadMeta", fn := fun _ => fun
  | [d] => { results := [.lit (.bool false)], args := [d] }
  | _ => none }
def FnExactReadMetaWrongFalsely : Prop := fnExactReadMetaRow.holds Try.pinned (OpenSpec.ofChange fnExactReadMetaWrong)

/-- 'laws.FnExactReadNode': WHATEVER THE INPUT: true; the input reads as it did. -/
def fnExactReadNodeSpec : ChangeSpec := { name := "fnExactReadNode", fn := fun _ => fun
  | [d] => { results := [.lit (.bool true)], args := [d] }
  | _ => none }
def fnExactReadNodeRow : OpenClaim := { program := "ytkobbccjjglfmaa", sum := "56be8b9565e4f58e87d24e2bafa114710c608aa8bf93dcd44cc5ecbacca3daa1", func := "loop.example/g00240/laws.FnExactReadNode", spec := "fnExactReadNode", unfollowed := true, recurses := true, apart := false }
def FnExactReadNodeSaid : Prop := fnExactReadNodeRow.holds Try.pinned (OpenSpec.ofChange fnExactReadNodeSpec)

/-- ITS FALSE NEIGHBOUR: 'it returns false'. Refute it at one input. -/
def fnExactReadNodeWrong : ChangeSpec := { name := "fnExactReadNode", fn := fun _ => fun
  | [d] => { results := [.lit (.bool false)], args := [d] }
  | _ => none }
def FnExactReadNodeWrongFalsely : Prop := fnExactReadNodeRow.holds Try.pinned (OpenSpec.ofChange fnExactReadNodeWrong)

/-- 'laws.FnExactReadThing': WHATEVER THE INPUT: true; the input reads as it did. -/
def fnExactReadThingSpec : ChangeSpec := { name := "fnExactReadThing", fn := fun _ => fun
  | [d1, d2] => { results := [.lit (.bool true)], args := [d1, d2] }
  | _ => none }
def fnExactReadThingRow : OpenClaim := { program := "ytkobbccjjglfmaa", sum := "56be8b9565e4f58e87d24e2bafa114710c608aa8bf93dcd44cc5ecbacca3daa1", func := "loop.example/g00240/laws.FnExactReadThing", spec := "fnExactReadThing", inPlace := ["internal/bytealg.IndexByteString", "internal/bytealg.IndexString"], unfollowed := true, recurses := true, named := ["internal/bytealg.MaxLen"], apart := false }
def FnExactReadThingSaid : Prop := fnExactReadThingRow.holds Try.pinned (OpenSpec.ofChange fnExactReadThingSpec)

/-- ITS FALSE NEIGHBOUR: 'it returns false'. Refute it at one input. -/
def fnExactReadThingWrong : ChangeSpec := { name := "fnExactReadThing", fn := fun _ => fun
  | [d1, d2] => { results := [.lit (.bool false)], args := [d1, d2] }
  | _ => none }
def FnExactReadThingWrongFalsely : Prop := fnExactReadThingRow.holds Try.pinned (OpenSpec.ofChange fnExactReadThingWrong)

/-- 'laws.FnBest': WHATEVER THE INPUT: true; the input reads as it did. -/
def fnBestSpec : ChangeSpec := { name := "fnBest", fn := fun _ => fun
  | [d] => { results := [.lit (.bool true)], args := [d] }
  | _ => none }
def fnBestRow : OpenClaim := { program := "ytkobbccjjglfmaa", sum := "56be8b9565e4f58e87d24e2bafa114710c608aa8bf93dcd44cc5ecbacca3daa1", func := "loop.example/g00240/laws.FnBest", spec := "fnBest", apart := false }
def FnBestSaid : Prop := fnBestRow.holds Try.pinned (OpenSpec.ofChange fnBestSpec)

/-- ITS FALSE NEIGHBOUR: 'it returns false'. Refute it at one input. -/
def fnBestWrong : ChangeSpec := { name := "fnBest", fn := fun _ => fun
  | [d] => { results := [.lit (.bool false)], args := [d] }
  | _ => none }
def FnBestWrongFalsely : Prop := fnBestRow.holds Try.pinned (OpenSpec.ofChange fnBestWrong)

/-- 'laws.FnThings': WHATEVER THE INPUT: true; the input reads as it did. -/
def fnThingsSpec : ChangeSpec := { name := "fnThings", fn := fun _ => fun
  | [d] => { results := [.lit (.bool true)], args := [d] }
  | _ => none }
def fnThingsRow : OpenClaim := { program := "ytkobbccjjglfmaa", sum := "56be8b9565e4f58e87d24e2bafa114710c608aa8bf93dcd44cc5ecbacca3daa1", func := "loop.example/g00240/laws.FnThings", spec := "fnThings", inPlace := ["internal/bytealg.IndexByteString", "internal/bytealg.IndexString"], unfollowed := true, recurses := true, named := ["internal/bytealg.MaxLen"], apart := false }
def FnThingsSaid : Prop := fnThingsRow.holds Try.pinned (OpenSpec.ofChange fnThingsSpec)

/-- ITS FALSE NEIGHBOUR: 'it returns false'. Refute it at one input. -/
def fnThingsWrong : ChangeSpec := { name := "fnThings", fn := fun _ => fun
  | [d] => { results := [.lit (.bool false)], args := [d] }
  | _ => none }
def FnThingsWrongFalsely : Prop := fnThingsRow.holds Try.pinned (OpenSpec.ofChange fnThingsWrong)

/-- 'laws.FnExactBestMeta': WHATEVER THE INPUT: true; the input reads as it did. -/
def fnExactBestMetaSpec : ChangeSpec := { name := "fnExactBestMeta", fn := fun _ => fun
  | [d] => { results := [.lit (.bool true)], args := [d] }
  | _ => none }
def fnExactBestMetaRow : OpenClaim := { program := "ytkobbccjjglfmaa", sum := "56be8b9565e4f58e87d24e2bafa114710c608aa8bf93dcd44cc5ecbacca3daa1", func := "loop.example/g00240/laws.FnExactBestMeta", spec := "fnExactBestMeta", apart := false }
def FnExactBestMetaSaid : Prop := fnExactBestMetaRow.holds Try.pinned (OpenSpec.ofChange fnExactBestMetaSpec)

/-- ITS FALSE NEIGHBOUR: 'it returns false'. Refute it at one input. -/
def fnExactBestMetaWrong : ChangeSpec := { name := "fnExactBestMeta", fn := fun _ => fun
  | [d] => { results := [.lit (.bool false)], args := [d] }
  | _ => none }
def FnExactBestMetaWrongFalsely : Prop := fnExactBestMetaRow.holds Try.pinned (OpenSpec.ofChange fnExactBestMetaWrong)

/- THE SECOND FORM. 'bulk': how many values and letters a reading holds, each counted each time it is reached (what is shared counts as often as it is met; a slice's spare places count too). A statement '..UptoSaid' is the law's where the arguments, and the package variables that the reading takes, are together of bulk at most 1048576: NARROWER than '..Said'. Prove '..Said' where nothing that the law and all that it calls make is longer than what came in: it says more and counts as full. Else prove '..UptoSaid'. A law counts once. -/
mutual
def uptoBulk {H : Type} : DataW H → Nat
  | .lit (.string bytes) => bytes.length + 1
  | .lit _ => 1
  | .nil => 1
  | .ptr d => uptoBulk d + 1
  | .slice elems spare => uptoBulkAll elems + uptoBulkAll spare + 1
  | .agg parts => uptoBulkAll parts + 1
  | .iface _ d => uptoBulk d + 1
  | .map entries => uptoBulkEntries entries + 1
  | .held _ => 1
def uptoBulkAll {H : Type} : List (DataW H) → Nat
  | [] => 0
  | d :: r => uptoBulk d + uptoBulkAll r
def uptoBulkEntries {H : Type} : List (Lit × DataW H) → Nat
  | [] => 0
  | x :: r => uptoBulkEntry x + uptoBulkEntries r
def uptoBulkEntry {H : Type} : Lit × DataW H → Nat
  | (.string bytes, d) => bytes.length + uptoBulk d + 1
  | (_, d) => uptoBulk d + 1
 end
def uptoSmall : (H : Type) → List (DataW H) → Bool := fun _ ds => decide (uptoBulkAll ds ≤ 1048576)
def OpenSpec.upto (s : _root_.Go.ChangeSpec) : _root_.Go.OpenSpec := { _root_.Go.OpenSpec.ofChange s with cond := some uptoSmall }

/-- 'laws.FnExactNodeText', WHERE WHAT IT READS IS OF BULK AT MOST 1048576: true; the input reads as it did. -/
def fnExactNodeTextUptoRow : OpenClaim := { program := "ytkobbccjjglfmaa", sum := "56be8b9565e4f58e87d24e2bafa114710c608aa8bf93dcd44cc5ecbacca3daa1", func := "loop.example/g00240/laws.FnExactNodeText", spec := "fnExactNodeText", unfollowed := true, recurses := true, apart := false, narrowed := true }
def FnExactNodeTextUptoSaid : Prop := fnExactNodeTextUptoRow.holds Try.pinned (OpenSpec.upto fnExactNodeTextSpec)

/-- 'laws.FnExactFallDisk', WHERE WHAT IT READS IS OF BULK AT MOST 1048576: true; the input reads as it did. -/
def fnExactFallDiskUptoRow : OpenClaim := { program := "ytkobbccjjglfmaa", sum := "56be8b9565e4f58e87d24e2bafa114710c608aa8bf93dcd44cc5ecbacca3daa1", func := "loop.example/g00240/laws.FnExactFallDisk", spec := "fnExactFallDisk", unfollowed := true, recurses := true, apart := false, narrowed := true }
def FnExactFallDiskUptoSaid : Prop := fnExactFallDiskUptoRow.holds Try.pinned (OpenSpec.upto fnExactFallDiskSpec)

/-- 'laws.FnSchemas', WHERE WHAT IT READS IS OF BULK AT MOST 1048576: true; the input reads as it did. -/
def fnSchemasUptoRow : OpenClaim := { program := "ytkobbccjjglfmaa", sum := "56be8b9565e4f58e87d24e2bafa114710c608aa8bf93dcd44cc5ecbacca3daa1", func := "loop.example/g00240/laws.FnSchemas", spec := "fnSchemas", unfollowed := true, recurses := true, apart := false, narrowed := true }
def FnSchemasUptoSaid : Prop := fnSchemasUptoRow.holds Try.pinned (OpenSpec.upto fnSchemasSpec)

/-- 'laws.FnExactThingOk', WHERE WHAT IT READS IS OF BULK AT MOST 1048576: true; the input reads as it did. -/
def fnExactThingOkUptoRow : OpenClaim := { program := "ytkobbccjjglfmaa", sum := "56be8b9565e4f58e87d24e2bafa114710c608aa8bf93dcd44cc5ecbacca3daa1", func := "loop.example/g00240/laws.FnExactThingOk", spec := "fnExactThingOk", inPlace := ["internal/bytealg.IndexByteString", "internal/bytealg.IndexString"], unfollowed := true, recurses := true, named := ["internal/bytealg.MaxLen"], apart := false, narrowed := true }
def FnExactThingOkUptoSaid : Prop := fnExactThingOkUptoRow.holds Try.pinned (OpenSpec.upto fnExactThingOkSpec)

/-- 'laws.FnExactThingText', WHERE WHAT IT READS IS OF BULK AT MOST 1048576: true; the input reads as it did. -/
def fnExactThingTextUptoRow : OpenClaim := { program := "ytkobbccjjglfmaa", sum := "56be8b9565e4f58e87d24e2bafa114710c608aa8bf93dcd44cc5ecbacca3daa1", func := "loop.example/g00240/laws.FnExactThingText", spec := "fnExactThingText", inPlace := ["internal/bytealg.IndexByteString", "internal/bytealg.IndexString"], unfollowed := true, recurses := true, named := ["internal/bytealg.MaxLen"], apart := false, narrowed := true }
def FnExactThingTextUptoSaid : Prop := fnExactThingTextUptoRow.holds Try.pinned (OpenSpec.upto fnExactThingTextSpec)

/-- 'laws.FnExactReadMeta', WHERE WHAT IT READS IS OF BULK AT MOST 1048576: true; the input reads as it did. -/
def fnExactReadMetaUptoRow : OpenClaim := { program := "ytkobbccjjglfmaa", sum := "56be8b9565e4f58e87d24e2bafa114710c608aa8bf93dcd44cc5ecbacca3daa1", func := "loop.example/g00240/laws.FnExactReadMeta", spec := "fnExactReadMeta", apart := false, narrowed := true }
def FnExactReadMetaUptoSaid : Prop := fnExactReadMetaUptoRow.holds Try.pinned (OpenSpec.upto fnExactReadMetaSpec)

/-- 'laws.FnExactReadNode', WHERE WHAT IT READS IS OF BULK AT MOST 1048576: true; the input reads as it did. -/
def fnExactReadNodeUptoRow : OpenClaim := { program := "ytkobbccjjglfmaa", sum := "56be8b9565e4f58e87d24e2bafa114710c608aa8bf93dcd44cc5ecbacca3daa1", func := "loop.example/g00240/laws.FnExactReadNode", spec := "fnExactReadNode", unfollowed := true, recurses := true, apart := false, narrowed := true }
def FnExactReadNodeUptoSaid : Prop := fnExactReadNodeUptoRow.holds Try.pinned (OpenSpec.upto fnExactReadNodeSpec)

/-- 'laws.FnExactReadThing', WHERE WHAT IT READS IS OF BULK AT MOST 1048576: true; the input reads as it did. -/
def fnExactReadThingUptoRow : OpenClaim := { program := "ytkobbccjjglfmaa", sum := "56be8b9565e4f58e87d24e2bafa114710c608aa8bf93dcd44cc5ecbacca3daa1", func := "loop.example/g00240/laws.FnExactReadThing", spec := "fnExactReadThing", inPlace := ["internal/bytealg.IndexByteString", "internal/bytealg.IndexString"], unfollowed := true, recurses := true, named := ["internal/bytealg.MaxLen"], apart := false, narrowed := true }
def FnExactReadThingUptoSaid : Prop := fnExactReadThingUptoRow.holds Try.pinned (OpenSpec.upto fnExactReadThingSpec)

/-- 'laws.FnBest', WHERE WHAT IT READS IS OF BULK AT MOST 1048576: true; the input reads as it did. -/
def fnBestUptoRow : OpenClaim := { program := "ytkobbccjjglfmaa", sum := "56be8b9565e4f58e87d24e2bafa114710c608aa8bf93dcd44cc5ecbacca3daa1", func := "loop.example/g00240/laws.FnBest", spec := "fnBest", apart := false, narrowed := true }
def FnBestUptoSaid : Prop := fnBestUptoRow.holds Try.pinned (OpenSpec.upto fnBestSpec)

/-- 'laws.FnThings', WHERE WHAT IT READS IS OF BULK AT MOST 1048576: true; the input reads as it did. -/
def fnThingsUptoRow : OpenClaim := { program := "ytkobbccjjglfmaa", sum := "56be8b9565e4f58e87d24e2bafa114710c608aa8bf93dcd44cc5ecbacca3daa1", func := "loop.example/g00240/laws.FnThings", spec := "fnThings", inPlace := ["internal/bytealg.IndexByteString", "internal/bytealg.IndexString"], unfollowed := true, recurses := true, named := ["internal/bytealg.MaxLen"], apart := false, narrowed := true }
def FnThingsUptoSaid : Prop := fnThingsUptoRow.holds Try.pinned (OpenSpec.upto fnThingsSpec)

/-- 'laws.FnExactBestMeta', WHERE WHAT IT READS IS OF BULK AT MOST 1048576: true; the input reads as it did. -/
def fnExactBestMetaUptoRow : OpenClaim := { program := "ytkobbccjjglfmaa", sum := "56be8b9565e4f58e87d24e2bafa114710c608aa8bf93dcd44cc5ecbacca3daa1", func := "loop.example/g00240/laws.FnExactBestMeta", spec := "fnExactBestMeta", apart := false, narrowed := true }
def FnExactBestMetaUptoSaid : Prop := fnExactBestMetaUptoRow.holds Try.pinned (OpenSpec.upto fnExactBestMetaSpec)

end Rows
end Go.Proofs.Ytkobbccjjglfmaa
