/-
  No cell of these rows narrows 'for every input' (looked for: loops, veiled, ifaces, maps, wideKeys, modest, calm, conditions, laid).
  DERIVED. THE GIVEN ROWS OF THIS SEAT. 10 by the template 'for every input the law returns true; each argument reads behind the call as it read before'; 0 by the template 'total and deterministic' (their statements: YtbjlpmhhcigkdaaTotals.lean).
  GIVEN WITH THE SEED: the statements are not yours to turn. If you find one false, say at which input.
  Laid BY PROGRAM, IN A SANDBOX (cutbox-rows.mjs): the forced cells as the released guide's own fill.sh prints them over the translation 32c5ba719a84d604… (all of the seat's roots in one cut). By AI agents, Wed Nov 11 2026. No macro, syntax, notation, axiom, sorry.
-/
import Derived.Test.YtbjlpmhhcigkdaaChecked
import GoSem.Claim
import GoSem.ClaimJoined
import GoSem.ClaimMapViews
import Derived.JoinedTies
import Derived.KernelRfl
namespace Go.Proofs.Ytbjlpmhhcigkdaa
/- THE CELL 'sum', in the pinned program and in every row, IS THE sha256 OF THE DUMP (.gsa) THAT YtbjlpmhhcigkdaaProg.lean LOADS. Nothing in Lean hashes anything: it is a label: what it is worth is what the hold of that sum in a sandbox is worth. -/
noncomputable def Try.pinned : Pinned := { name := "ytbjlpmhhcigkdaa", sum := "32c5ba719a84d604446bfb8dbf0d9f788bae3693f4f7aabe893c6501a7519dd9", checked := Try.checked }
namespace Rows
def none {H : Type} : Left H := { results := [], args := [] }

/-- 'laws.FnExactNodeOk': WHATEVER THE INPUT: true; the input reads as it did. -/
def fnExactNodeOkSpec : ChangeSpec := { name := "fnExactNodeOk", fn := fun _ => fun
  | [d] => { results := [.lit (.bool true)], args := [d] }
  | _ => none }
def fnExactNodeOkRow : OpenClaim := { program := "ytbjlpmhhcigkdaa", sum := "32c5ba719a84d604446bfb8dbf0d9f788bae3693f4f7aabe893c6501a7519dd9", func := "loop.example/g00240/laws.FnExactNodeOk", spec := "fnExactNodeOk", unfollowed := true, recurses := true, apart := false }
def FnExactNodeOkSaid : Prop := fnExactNodeOkRow.holds Try.pinned (OpenSpec.ofChange fnExactNodeOkSpec)

/-- ITS FALSE NEIGHBOUR: 'it returns false'. Refute it at one input. -/
def fnExactNodeOkWrong : ChangeSpec := { name := "fnExactNodeOk", fn := fun _ => fun
  | [d] => { results := [.lit (.bool false)], args := [d] }
  | _ => none }
def FnExactNodeOkWrongFalsely : Prop := fnExactNodeOkRow.holds Try.pinned (OpenSpec.ofChange fnExactNodeOkWrong)

/-- 'laws.FnWritten': WHATEVER THE INPUT: true; the input reads as it did. -/
def fnWrittenSpec : ChangeSpec := { name := "fnWritten", fn := fun _ => fun
  | [d] => { results := [.lit (.bool true)], args := [d] }
  | _ => none }
def fnWrittenRow : OpenClaim := { program := "ytbjlpmhhcigkdaa", sum := "32c5ba719a84d604446bfb8dbf0d9f788bae3693f4f7aabe893c6501a7519dd9", func := "loop.example/g00240/laws.FnWritten", spec := "fnWritten", unfollowed := true, recurses := true, apart := false }
def FnWrittenSaid : Prop := fnWrittenRow.holds Try.pinned (OpenSpec.ofChange fnWrittenSpec)

/-- ITS FALSE NEIGHBOUR: 'it returns false'. Refute it at one input. -/
def fnWrittenWrong : ChangeSpec := { name := "fnWritten", fn := fun _ => fun
  | [d] => { results := [.lit (.bool false)], args := [d] }
  | _ => none }
def FnWrittenWrongFalsely : Prop := fnWrittenRow.holds Try.pinned (OpenSpec.ofChange fnWrittenWrong)

/-- 'laws.FnExactMetaOk': WHATEVER THE INPUT: true; the input reads as it did. -/
def fnExactMetaOkSpec : ChangeSpec := { name := "fnExactMetaOk", fn := fun _ => fun
  | [d] => { results := [.lit (.bool true)], args := [d] }
  | _ => none }
def fnExactMetaOkRow : OpenClaim := { program := "ytbjlpmhhcigkdaa", sum := "32c5ba719a84d604446bfb8dbf0d9f788bae3693f4f7aabe893c6501a7519dd9", func := "loop.example/g00240/laws.FnExactMetaOk", spec := "fnExactMetaOk", apart := false }
def FnExactMetaOkSaid : Prop := fnExactMetaOkRow.holds Try.pinned (OpenSpec.ofChange fnExactMetaOkSpec)

/-- ITS FALSE NEIGHBOUR: 'it returns false'. Refute it at one input. -/
def fnExactMetaOkWrong : ChangeSpec := { name := "fnExactMetaOk", fn := fun _ => fun
  | [d] => { results := [.lit (.bool false)], args := [d] }
  | _ => none }
def FnExactMetaOkWrongFalsely : Prop := fnExactMetaOkRow.holds Try.pinned (OpenSpec.ofChange fnExactMetaOkWrong)

/-- 'laws.FnExactSyncDisk': WHATEVER THE INPUT: true; the input reads as it did. -/
def fnExactSyncDiskSpec : ChangeSpec := { name := "fnExactSyncDisk", fn := fun _ => fun
  | [d] => { results := [.lit (.bool true)], args := [d] }
  | _ => none }
def fnExactSyncDiskRow : OpenClaim := { program := "ytbjlpmhhcigkdaa", sum := "32c5ba719a84d604446bfb8dbf0d9f788bae3693f4f7aabe893c6501a7519dd9", func := "loop.example/g00240/laws.FnExactSyncDisk", spec := "fnExactSyncDisk", apart := false }
def FnExactSyncDiskSaid : Prop := fnExactSyncDiskRow.holds Try.pinned (OpenSpec.ofChange fnExactSyncDiskSpec)

/-- ITS FALSE NEIGHBOUR: 'it returns false'. Refute it at one input. -/
def fnExactSyncDiskWrong : ChangeSpec := { name := "fnExactSyncDisk", fn := fun _ => fun
  | [d] => { results := [.lit (.bool false)], args := [d] }
  | _ => none }
def FnExactSyncDiskWrongFalsely : Prop := fnExactSyncDiskRow.holds Try.pinned (OpenSpec.ofChange fnExactSyncDiskWrong)

/-- 'laws.FnExactReadSchema': WHATEVER THE INPUT: true; the input reads as it did. -/
def fnExactReadSchemaSpec : ChangeSpec := { name := "fnExactReadSchema", fn := fun _ => fun
  | [d] => { results := [.lit (.bool true)], args := [d] }
  | _ => none }
def fnExactReadSchemaRow : OpenClaim := { program := "ytbjlpmhhcigkdaa", sum := "32c5ba719a84d604446bfb8dbf0d9f788bae3693f4f7aabe893c6501a7519dd9", func := "loop.example/g00240/laws.FnExactReadSchema", spec := "fnExactReadSchema", unfollowed := true, recurses := true, apart := false }
def FnExactReadSchemaSaid : Prop := fnExactReadSchemaRow.holds Try.pinned (OpenSpec.ofChange fnExactReadSchemaSpec)

/-- ITS FALSE NEIGHBOUR: 'it returns false'. Refute it at one input. -/
def fnExactReadSchemaWrong : ChangeSpec := { name := "fnExactReadSchema", fn := fun _ => fun
  | [d] => { results := [.lit (.bool false)], args := [d] }
  | _ => none }
def FnExactReadSchemaWrongFalsely : Prop := fnExactReadSchemaRow.holds Try.pinned (OpenSpec.ofChange fnExactReadSchemaWrong)

/-- 'laws.FnSyncs': WHATEVER THE INPUT: true; the input reads as it did. -/
def fnSyncsSpec : ChangeSpec := { name := "fnSyncs", fn := fun _ => fun
  | [d] => { results := [.lit (.bool true)], args := [d] }
  | _ => none }
def fnSyncsRow : OpenClaim := { program := "ytbjlpmhhcigkdaa", sum := "32c5ba719a84d604446bfb8dbf0d9f788bae3693f4f7aabe893c6501a7519dd9", func := "loop.example/g00240/laws.FnSyncs", spec := "fnSyncs", unfollowed := true, recurses := true, apart := false }
def FnSyncsSaid : Prop := fnSyncsRow.holds Try.pinned (OpenSpec.ofChange fnSyncsSpec)

/-- ITS FALSE NEIGHBOUR: 'it returns false'. Refute it at one input. -/
def fnSyncsWrong : ChangeSpec := { name := "fnSyncs", fn := fun _ => fun
  | [d] => { results := [.lit (.bool false)], args := [d] }
  | _ => none }
def FnSyncsWrongFalsely : Prop := fnSyncsRow.holds Try.pinned (OpenSpec.ofChange fnSyncsWrong)

/-- 'laws.FnFalls': WHATEVER THE INPUT: true; the input reads as it did. -/
def fnFallsSpec : ChangeSpec := { name := "fnFalls", fn := fun _ => fun
  | [d] => { results := [.lit (.bool true)], args := [d] }
  | _ => none }
def fnFallsRow : OpenClaim := { program := "ytbjlpmhhcigkdaa", sum := "32c5ba719a84d604446bfb8dbf0d9f788bae3693f4f7aabe893c6501a7519dd9", func := "loop.example/g00240/laws.FnFalls", spec := "fnFalls", unfollowed := true, recurses := true, apart := false }
def FnFallsSaid : Prop := fnFallsRow.holds Try.pinned (OpenSpec.ofChange fnFallsSpec)

/-- ITS FALSE NEIGHBOUR: 'it returns false'. Refute it at one input. -/
def fnFallsWrong : ChangeSpec := { name := "fnFalls", fn := fun _ => fun
  | [d] => { results := [.lit (.bool false)], args := [d] }
  | _ => none }
def FnFallsWrongFalsely : Prop := fnFallsRow.holds Try.pinned (OpenSpec.ofChange fnFallsWrong)

/-- 'laws.FnExactWritePage': WHATEVER THE INPUT: true; the input reads as it did. -/
def fnExactWritePageSpec : ChangeSpec := { name := "fnExactWritePage", fn := fun _ => fun
  | [d1, d2, d3] => { results := [.lit (.bool true)], args := [d1, d2, d3] }
  | _ => none }
def fnExactWritePageRow : OpenClaim := { program := "ytbjlpmhhcigkdaa", sum := "32c5ba719a84d604446bfb8dbf0d9f788bae3693f4f7aabe893c6501a7519dd9", func := "loop.example/g00240/laws.FnExactWritePage", spec := "fnExactWritePage", unfollowed := true, recurses := true, apart := false }
def FnExactWritePageSaid : Prop := fnExactWritePageRow.holds Try.pinned (OpenSpec.ofChange fnExactWritePageSpec)

/-- ITS FALSE NEIGHBOUR: 'it returns false'. Refute it at one input. -/
def fnExactWritePageWrong : ChangeSpec := { name := "fnExactWritePage", fn := fun _ => fun
  | [d1, d2, d3] => { results := [.lit (.bool false)], args := [d1, d2, d3] }
  | _ => none }
def FnExactWritePageWrongFalsely : Prop := fnExactWritePageRow.holds Try.pinned (OpenSpec.ofChange fnExactWritePageWrong)

/-- 'laws.FnOrders': WHATEVER THE INPUT: true; the input reads as it did. -/
def fnOrdersSpec : ChangeSpec := { name := "fnOrders", fn := fun _ => fun
  | [d] => { results := [.lit (.bool true)], args := [d] }
  | _ => none }
def fnOrdersRow : OpenClaim := { program := "ytbjlpmhhcigkdaa", sum := "32c5ba719a84d604446bfb8dbf0d9f788bae3693f4f7aabe893c6501a7519dd9", func := "loop.example/g00240/laws.FnOrders", spec := "fnOrders", inPlace := ["internal/bytealg.IndexByteString", "internal/bytealg.IndexString"], unfollowed := true, recurses := true, named := ["internal/bytealg.MaxLen"], apart := false }
def FnOrdersSaid : Prop := fnOrdersRow.holds Try.pinned (OpenSpec.ofChange fnOrdersSpec)

/-- ITS FALSE NEIGHBOUR: 'it returns false'. Refute it at one input. -/
def fnOrdersWrong : ChangeSpec := { name := "fnOrders", fn := fun _ => fun
  | [d] => { results := [.lit (.bool false)], args := [d] }
  | _ => none }
def FnOrdersWrongFalsely : Prop := fnOrdersRow.holds Try.pinned (OpenSpec.ofChange fnOrdersWrong)

/-- 'laws.FnExactMetaText': WHATEVER THE INPUT: true; the input reads as it did. -/
def fnExactMetaTextSpec : ChangeSpec := { name := "fnExactMetaText", fn := fun _ => fun
  | [d] => { results := [.lit (.bool true)], args := [d] }
  | _ => none }
def fnExactMetaTextRow : OpenClaim := { program := "ytbjlpmhhcigkdaa", sum := "32c5ba719a84d604446bfb8dbf0d9f788bae3693f4f7aabe893c6501a7519dd9", func := "loop.example/g00240/laws.FnExactMetaText", spec := "fnExactMetaText", apart := false }
def FnExactMetaTextSaid : Prop := fnExactMetaTextRow.holds Try.pinned (OpenSpec.ofChange fnExactMetaTextSpec)

/-- ITS FALSE NEIGHBOUR: 'it returns false'. Refute it at one input. -/
def fnExactMetaTextWrong : ChangeSpec := { name := "fnExactMetaText", fn := fun _ => fun
  | [d] => { results := [.lit (.bool false)], args := [d] }
  | _ => none }
def FnExactMetaTextWrongFalsely : Prop := fnExactMetaTextRow.holds Try.pinned (OpenSpec.ofChange fnExactMetaTextWrong)

/- THE SECOND FORM. 'bulk': how many values and letters a reading holds, each counted each time it is reached (what is shared counts as often as it is met; a slice's spare places count too). A statement '..UptoSaid' is the law's where the arguments, and the package variables that the reading takes, are together of bulk at most 1048576: NARROWER than '..Said'. Prove '..Said' where nothing that the law and all that it calls make is longer than what came in: it says more and counts as full. Else prove '..UptoSaid'. A law counts once. -/
mutual
def uptoBulk {H : Type} : DataW H → Nat
  | .lit (.string bytes) => bytes.length + 1
  | .lit _ => 1
  | .nil => 1
  | .ptr d => uptoBulk d + 1
  | .slice elems spare => uptoBulkAll elems + uptoBulkAll spare + 1
  | .agg parts => uptoBulkAll parts + 1
  | .iface _ d => uptoBulk d + 1
  | .map entries => uptoBulkEntries entries + 1
  | .held _ => 1
def uptoBulkAll {H : Type} : List (DataW H) → Nat
  | [] => 0
  | d :: r => uptoBulk d + uptoBulkAll r
def uptoBulkEntries {H : Type} : List (Lit × DataW H) → Nat
  | [] => 0
  | x :: r => uptoBulkEntry x + uptoBulkEntries r
def uptoBulkEntry {H : Type} : Lit × DataW H → Nat
  | (.string bytes, d) => bytes.length + uptoBulk d + 1
  | (_, d) => uptoBulk d + 1
 end
def uptoSmall : (H : Type) → List (DataW H) → Bool := fun _ ds => decide (uptoBulkAll ds ≤ 1048576)
def OpenSpec.upto (s : _root_.Go.ChangeSpec) : _root_.Go.OpenSpec := { _root_.Go.OpenSpec.ofChange s with cond := some uptoSmall }

/-- 'laws.FnExactNodeOk', WHERE WHAT IT READS IS OF BULK AT MOST 1048576: true; the input reads as it did. -/
def fnExactNodeOkUptoRow : OpenClaim := { program := "ytbjlpmhhcigkdaa", sum := "32c5ba719a84d604446bfb8dbf0d9f788bae3693f4f7aabe893c6501a7519dd9", func := "loop.example/g00240/laws.FnExactNodeOk", spec := "fnExactNodeOk", unfollowed := true, recurses := true, apart := false, narrowed := true }
def FnExactNodeOkUptoSaid : Prop := fnExactNodeOkUptoRow.holds Try.pinned (OpenSpec.upto fnExactNodeOkSpec)

/-- 'laws.FnWritten', WHERE WHAT IT READS IS OF BULK AT MOST 1048576: true; the input reads as it did. -/
def fnWrittenUptoRow : OpenClaim := { program := "ytbjlpmhhcigkdaa", sum := "32c5ba719a84d604446bfb8dbf0d9f788bae3693f4f7aabe893c6501a7519dd9", func := "loop.example/g00240/laws.FnWritten", spec := "fnWritten", unfollowed := true, recurses := true, apart := false, narrowed := true }
def FnWrittenUptoSaid : Prop := fnWrittenUptoRow.holds Try.pinned (OpenSpec.upto fnWrittenSpec)

/-- 'laws.FnExactMetaOk', WHERE WHAT IT READS IS OF BULK AT MOST 1048576: true; the input reads as it did. -/
def fnExactMetaOkUptoRow : OpenClaim := { program := "ytbjlpmhhcigkdaa", sum := "32c5ba719a84d604446bfb8dbf0d9f788bae3693f4f7aabe893c6501a7519dd9", func := "loop.example/g00240/laws.FnExactMetaOk", spec := "fnExactMetaOk", apart := false, narrowed := true }
def FnExactMetaOkUptoSaid : Prop := fnExactMetaOkUptoRow.holds Try.pinned (OpenSpec.upto fnExactMetaOkSpec)

/-- 'laws.FnExactSyncDisk', WHERE WHAT IT READS IS OF BULK AT MOST 1048576: true; the input reads as it did. -/
def fnExactSyncDiskUptoRow : OpenClaim := { program := "ytbjlpmhhcigkdaa", sum := "32c5ba719a84d604446bfb8dbf0d9f788bae3693f4f7aabe893c6501a7519dd9", func := "loop.example/g00240/laws.FnExactSyncDisk", spec := "fnExactSyncDisk", apart := false, narrowed := true }
def FnExactSyncDiskUptoSaid : Prop := fnExactSyncDiskUptoRow.holds Try.pinned (OpenSpec.upto fnExactSyncDiskSpec)

/-- 'laws.FnExactReadSchema', WHERE WHAT IT READS IS OF BULK AT MOST 1048576: true; the input reads as it did. -/
def fnExactReadSchemaUptoRow : OpenClaim := { program := "ytbjlpmhhcigkdaa", sum := "32c5ba719a84d604446bfb8dbf0d9f788bae3693f4f7aabe893c6501a7519dd9", func := "loop.example/g00240/laws.FnExactReadSchema", spec := "fnExactReadSchema", unfollowed := true, recurses := true, apart := false, narrowed := true }
def FnExactReadSchemaUptoSaid : Prop := fnExactReadSchemaUptoRow.holds Try.pinned (OpenSpec.upto fnExactReadSchemaSpec)

/-- 'laws.FnSyncs', WHERE WHAT IT READS IS OF BULK AT MOST 1048576: true; the input reads as it did. -/
def fnSyncsUptoRow : OpenClaim := { program := "ytbjlpmhhcigkdaa", sum := "32c5ba719a84d604446bfb8dbf0d9f788bae3693f4f7aabe893c6501a7519dd9", func := "loop.example/g00240/laws.FnSyncs", spec := "fnSyncs", unfollowed := true, recurses := true, apart := false, narrowed := true }
def FnSyncsUptoSaid : Prop := fnSyncsUptoRow.holds Try.pinned (OpenSpec.upto fnSyncsSpec)

/-- 'laws.FnFalls', WHERE WHAT IT READS IS OF BULK AT MOST 1048576: true; the input reads as it did. -/
def fnFallsUptoRow : OpenClaim := { program := "ytbjlpmhhcigkdaa", sum := "32c5ba719a84d604446bfb8dbf0d9f788bae3693f4f7aabe893c6501a7519dd9", func := "loop.example/g00240/laws.FnFalls", spec := "fnFalls", unfollowed := true, recurses := true, apart := false, narrowed := true }
def FnFallsUptoSaid : Prop := fnFallsUptoRow.holds Try.pinned (OpenSpec.upto fnFallsSpec)

/-- 'laws.FnExactWritePage', WHERE WHAT IT READS IS OF BULK AT MOST 1048576: true; the input reads as it did. -/
def fnExactWritePageUptoRow : OpenClaim := { program := "ytbjlpmhhcigkdaa", sum := "32c5ba719a84d604446bfb8dbf0d9f788bae3693f4f7aabe893c6501a7519dd9", func := "loop.example/g00240/laws.FnExactWritePage", spec := "fnExactWritePage", unfollowed := true, recurses := true, apart := false, narrowed := true }
def FnExactWritePageUptoSaid : Prop := fnExactWritePageUptoRow.holds Try.pinned (OpenSpec.upto fnExactWritePageSpec)

/-- 'laws.FnOrders', WHERE WHAT IT READS IS OF BULK AT MOST 1048576: true; the input reads as it did. -/
def fnOrdersUptoRow : OpenClaim := { program := "ytbjlpmhhcigkdaa", sum := "32c5ba719a84d604446bfb8dbf0d9f788bae3693f4f7aabe893c6501a7519dd9", func := "loop.example/g00240/laws.FnOrders", spec := "fnOrders", inPlace := ["internal/bytealg.IndexByteString", "internal/bytealg.IndexString"], unfollowed := true, recurses := true, named := ["internal/bytealg.MaxLen"], apart := false, narrowed := true }
def FnOrdersUptoSaid : Prop := fnOrdersUptoRow.holds Try.pinned (OpenSpec.upto fnOrdersSpec)

/-- 'laws.FnExactMetaText', WHERE WHAT IT READS IS OF BULK AT MOST 1048576: true; the input reads as it did. -/
def fnExactMetaTextUptoRow : OpenClaim := { program := "ytbjlpmhhcigkdaa", sum := "32c5ba719a84d604446bfb8dbf0d9f788bae3693f4f7aabe893c6501a7519dd9", func := "loop.example/g00240/laws.FnExactMetaText", spec := "fnExactMetaText", apart := false, narrowed := true }
def FnExactMetaTextUptoSaid : Prop := fnExactMetaTextUptoRow.holds Try.pinned (OpenSpec.upto fnExactMetaTextSpec)

end Rows
end Go.Proofs.Ytbjlpmhhcigkdaa
