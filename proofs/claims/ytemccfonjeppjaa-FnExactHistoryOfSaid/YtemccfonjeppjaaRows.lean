/-
  No cell of these rows narrows 'for every input' (looked for: loops, veiled, ifaces, maps, wideKeys, modest, calm, conditions, laid).
  DERIVED. THE GIVEN ROWS OF THIS SEAT. 11 by the template 'for every input the law returns true; each argument reads behind the call as it read before'; 0 by the template 'total and deterministic' (their statements: YtemccfonjeppjaaTotals.lean).
  GIVEN WITH THE SEED: the statements are not yours to turn. If you find one false, say at which input.
  Laid BY PROGRAM, IN A SANDBOX (cutbox-rows.mjs): the forced cells as the released guide's own fill.sh prints them over the translation b98fef0ead69e850… (all of the seat's roots in one cut). By AI agents, Wed Nov 11 2026. No macro, syntax, notation, axiom, sorry.
-/
import Derived.Test.YtemccfonjeppjaaChecked
import GoSem.Claim
import GoSem.ClaimJoined
import GoSem.ClaimMapViews
import Derived.JoinedTies
import Derived.KernelRfl
namespace Go.Proofs.Ytemccfonjeppjaa
/- THE CELL 'sum', in the pinned program and in every row, IS THE sha256 OF THE DUMP (.gsa) THAT YtemccfonjeppjaaProg.lean LOADS. Nothing in Lean hashes anything: it is a label: what it is worth is what the hold of that sum in a sandbox is worth. -/
noncomputable def Try.pinned : Pinned := { name := "ytemccfonjeppjaa", sum := "b98fef0ead69e850972dba3d18d9bd0c025e6d5fda770eaa4006c09a7e257221", checked := Try.checked }
namespace Rows
def none {H : Type} : Left H := { results := [], args := [] }

/-- 'laws.FnExactRestoreOK': WHATEVER THE INPUT: true; the input reads as it did. -/
def fnExactRestoreOKSpec : ChangeSpec := { name := "fnExactRestoreOK", fn := fun _ => fun
  | [d] => { results := [.lit (.bool true)], args := [d] }
  | _ => none }
def fnExactRestoreOKRow : OpenClaim := { program := "ytemccfonjeppjaa", sum := "b98fef0ead69e850972dba3d18d9bd0c025e6d5fda770eaa4006c09a7e257221", func := "loop.example/g00208/laws.FnExactRestoreOK", spec := "fnExactRestoreOK", apart := false }
def FnExactRestoreOKSaid : Prop := fnExactRestoreOKRow.holds Try.pinned (OpenSpec.ofChange fnExactRestoreOKSpec)

/-- ITS FALSE NEIGHBOUR: 'it returns false'. Refute it at one input. -/
def fnExactRestoreOKWrong : ChangeSpec := { name := "fnExactRestoreOK", fn := fun _ => fun
  | [d] => { results := [.lit (.bool false)], args := [d] }
  | _ => none }
def FnExactRestoreOKWrongFalsely : Prop := fnExactRestoreOKRow.holds Try.pinned (OpenSpec.ofChange fnExactRestoreOKWrong)

/-- 'laws.FnExactRestoreChunk': WHATEVER THE INPUT: true; the input reads as it did. -/
def fnExactRestoreChunkSpec : ChangeSpec := { name := "fnExactRestoreChunk", fn := fun _ => fun
  | [d1, d2] => { results := [.lit (.bool true)], args := [d1, d2] }
  | _ => none }
def fnExactRestoreChunkRow : OpenClaim := { program := "ytemccfonjeppjaa", sum := "b98fef0ead69e850972dba3d18d9bd0c025e6d5fda770eaa4006c09a7e257221", func := "loop.example/g00208/laws.FnExactRestoreChunk", spec := "fnExactRestoreChunk", unfollowed := true, recurses := true, apart := false }
def FnExactRestoreChunkSaid : Prop := fnExactRestoreChunkRow.holds Try.pinned (OpenSpec.ofChange fnExactRestoreChunkSpec)

/-- ITS FALSE NEIGHBOUR: 'it returns false'. Refute it at one input. -/
def fnExactRestoreChunkWrong : ChangeSpec := { name := "fnExactRestoreChunk", fn := fun _ => fun
  | [d1, d2] => { results := [.lit (.bool false)], args := [d1, d2] }
  | _ => none }
def FnExactRestoreChunkWrongFalsely : Prop := fnExactRestoreChunkRow.holds Try.pinned (OpenSpec.ofChange fnExactRestoreChunkWrong)

/-- 'laws.FnExactSealBytes': WHATEVER THE INPUT: true; the input reads as it did. -/
def fnExactSealBytesSpec : ChangeSpec := { name := "fnExactSealBytes", fn := fun _ => fun
  | [d] => { results := [.lit (.bool true)], args := [d] }
  | _ => none }
def fnExactSealBytesRow : OpenClaim := { program := "ytemccfonjeppjaa", sum := "b98fef0ead69e850972dba3d18d9bd0c025e6d5fda770eaa4006c09a7e257221", func := "loop.example/g00208/laws.FnExactSealBytes", spec := "fnExactSealBytes", apart := false }
def FnExactSealBytesSaid : Prop := fnExactSealBytesRow.holds Try.pinned (OpenSpec.ofChange fnExactSealBytesSpec)

/-- ITS FALSE NEIGHBOUR: 'it returns false'. Refute it at one input. -/
def fnExactSealBytesWrong : ChangeSpec := { name := "fnExactSealBytes", fn := fun _ => fun
  | [d] => { results := [.lit (.bool false)], args := [d] }
  | _ => none }
def FnExactSealBytesWrongFalsely : Prop := fnExactSealBytesRow.holds Try.pinned (OpenSpec.ofChange fnExactSealBytesWrong)

/-- 'laws.FnExactBackupChunks': WHATEVER THE INPUT: true; the input reads as it did. -/
def fnExactBackupChunksSpec : ChangeSpec := { name := "fnExactBackupChunks", fn := fun _ => fun
  | [d] => { results := [.lit (.bool true)], args := [d] }
  | _ => none }
def fnExactBackupChunksRow : OpenClaim := { program := "ytemccfonjeppjaa", sum := "b98fef0ead69e850972dba3d18d9bd0c025e6d5fda770eaa4006c09a7e257221", func := "loop.example/g00208/laws.FnExactBackupChunks", spec := "fnExactBackupChunks", apart := false }
def FnExactBackupChunksSaid : Prop := fnExactBackupChunksRow.holds Try.pinned (OpenSpec.ofChange fnExactBackupChunksSpec)

/-- ITS FALSE NEIGHBOUR: 'it returns false'. Refute it at one input. -/
def fnExactBackupChunksWrong : ChangeSpec := { name := "fnExactBackupChunks", fn := fun _ => fun
  | [d] => { results := [.lit (.bool false)], args := [d] }
  | _ => none }
def FnExactBackupChunksWrongFalsely : Prop := fnExactBackupChunksRow.holds Try.pinned (OpenSpec.ofChange fnExactBackupChunksWrong)

/-- 'laws.FnExactOpenSeal': WHATEVER THE INPUT: true; the input reads as it did. -/
def fnExactOpenSealSpec : ChangeSpec := { name := "fnExactOpenSeal", fn := fun _ => fun
  | [d] => { results := [.lit (.bool true)], args := [d] }
  | _ => none }
def fnExactOpenSealRow : OpenClaim := { program := "ytemccfonjeppjaa", sum := "b98fef0ead69e850972dba3d18d9bd0c025e6d5fda770eaa4006c09a7e257221", func := "loop.example/g00208/laws.FnExactOpenSeal", spec := "fnExactOpenSeal", apart := false }
def FnExactOpenSealSaid : Prop := fnExactOpenSealRow.holds Try.pinned (OpenSpec.ofChange fnExactOpenSealSpec)

/-- ITS FALSE NEIGHBOUR: 'it returns false'. Refute it at one input. -/
def fnExactOpenSealWrong : ChangeSpec := { name := "fnExactOpenSeal", fn := fun _ => fun
  | [d] => { results := [.lit (.bool false)], args := [d] }
  | _ => none }
def FnExactOpenSealWrongFalsely : Prop := fnExactOpenSealRow.holds Try.pinned (OpenSpec.ofChange fnExactOpenSealWrong)

/-- 'laws.FnExactGuardStep': WHATEVER THE INPUT: true; the input reads as it did. -/
def fnExactGuardStepSpec : ChangeSpec := { name := "fnExactGuardStep", fn := fun _ => fun
  | [d1, d2] => { results := [.lit (.bool true)], args := [d1, d2] }
  | _ => none }
def fnExactGuardStepRow : OpenClaim := { program := "ytemccfonjeppjaa", sum := "b98fef0ead69e850972dba3d18d9bd0c025e6d5fda770eaa4006c09a7e257221", func := "loop.example/g00208/laws.FnExactGuardStep", spec := "fnExactGuardStep", unfollowed := true, recurses := true, apart := false }
def FnExactGuardStepSaid : Prop := fnExactGuardStepRow.holds Try.pinned (OpenSpec.ofChange fnExactGuardStepSpec)

/-- ITS FALSE NEIGHBOUR: 'it returns false'. Refute it at one input. -/
def fnExactGuardStepWrong : ChangeSpec := { name := "fnExactGuardStep", fn := fun _ => fun
  | [d1, d2] => { results := [.lit (.bool false)], args := [d1, d2] }
  | _ => none }
def FnExactGuardStepWrongFalsely : Prop := fnExactGuardStepRow.holds Try.pinned (OpenSpec.ofChange fnExactGuardStepWrong)

/-- 'laws.FnExactReadRow': WHATEVER THE INPUT: true; the input reads as it did. -/
def fnExactReadRowSpec : ChangeSpec := { name := "fnExactReadRow", fn := fun _ => fun
  | [d] => { results := [.lit (.bool true)], args := [d] }
  | _ => none }
def fnExactReadRowRow : OpenClaim := { program := "ytemccfonjeppjaa", sum := "b98fef0ead69e850972dba3d18d9bd0c025e6d5fda770eaa4006c09a7e257221", func := "loop.example/g00208/laws.FnExactReadRow", spec := "fnExactReadRow", unfollowed := true, recurses := true, apart := false }
def FnExactReadRowSaid : Prop := fnExactReadRowRow.holds Try.pinned (OpenSpec.ofChange fnExactReadRowSpec)

/-- ITS FALSE NEIGHBOUR: 'it returns false'. Refute it at one input. -/
def fnExactReadRowWrong : ChangeSpec := { name := "fnExactReadRow", fn := fun _ => fun
  | [d] => { results := [.lit (.bool false)], args := [d] }
  | _ => none }
def FnExactReadRowWrongFalsely : Prop := fnExactReadRowRow.holds Try.pinned (OpenSpec.ofChange fnExactReadRowWrong)

/-- 'laws.FnExactHistoryOf': WHATEVER THE INPUT: true; the input reads as it did. -/
def fnExactHistoryOfSpec : ChangeSpec := { name := "fnExactHistoryOf", fn := fun _ => fun
  | [d1, d2, d3, d4] => { results := [.lit (.bool true)], args := [d1, d2, d3, d4] }
  | _ => none }
def fnExactHistoryOfRow : OpenClaim := { program := "ytemccfonjeppjaa", sum := "b98fef0ead69e850972dba3d18d9bd0c025e6d5fda770eaa4006c09a7e257221", func := "loop.example/g00208/laws.FnExactHistoryOf", spec := "fnExactHistoryOf", unfollowed := true, recurses := true, apart := false }
def FnExactHistoryOfSaid : Prop := fnExactHistoryOfRow.holds Try.pinned (OpenSpec.ofChange fnExactHistoryOfSpec)

/-- ITS FALSE NEIGHBOUR: 'it returns false'. Refute it at one input. -/
def fnExactHistoryOfWrong : ChangeSpec := { name := "fnExactHistoryOf", fn := fun _ => fun
  | [d1, d2, d3, d4] => { results := [.lit (.bool false)], args := [d1, d2, d3, d4] }
  | _ => none }
def FnExactHistoryOfWrongFalsely : Prop := fnExactHistoryOfRow.holds Try.pinned (OpenSpec.ofChange fnExactHistoryOfWrong)

/-- 'laws.FnExactReadKey': WHATEVER THE INPUT: true; the input reads as it did. -/
def fnExactReadKeySpec : ChangeSpec := { name := "fnExactReadKey", fn := fun _ => fun
  | [d] => { results := [.lit (.bool true)], args := [d] }
  | _ => none }
def fnExactReadKeyRow : OpenClaim := { program := "ytemccfonjeppjaa", sum := "b98fef0ead69e850972dba3d18d9bd0c025e6d5fda770eaa4006c09a7e257221", func := "loop.example/g00208/laws.FnExactReadKey", spec := "fnExactReadKey", unfollowed := true, recurses := true, apart := false }
def FnExactReadKeySaid : Prop := fnExactReadKeyRow.holds Try.pinned (OpenSpec.ofChange fnExactReadKeySpec)

/-- ITS FALSE NEIGHBOUR: 'it returns false'. Refute it at one input. -/
def fnExactReadKeyWrong : ChangeSpec := { name := "fnExactReadKey", fn := fun _ => fun
  | [d] => { results := [.lit (.bool false)], args := [d] }
  | _ => none }
def FnExactReadKeyWrongFalsely : Prop := fnExactReadKeyRow.holds Try.pinned (OpenSpec.ofChange fnExactReadKeyWrong)

/-- 'laws.FnBurst': WHATEVER THE INPUT: true; the input reads as it did. -/
def fnBurstSpec : ChangeSpec := { name := "fnBurst", fn := fun _ => fun
  | [d1, d2] => { results := [.lit (.bool true)], args := [d1, d2] }
  | _ => none }
def fnBurstRow : OpenClaim := { program := "ytemccfonjeppjaa", sum := "b98fef0ead69e850972dba3d18d9bd0c025e6d5fda770eaa4006c09a7e257221", func := "loop.example/g00208/laws.FnBurst", spec := "fnBurst", recurses := true, apart := false }
def FnBurstSaid : Prop := fnBurstRow.holds Try.pinned (OpenSpec.ofChange fnBurstSpec)

/-- ITS FALSE NEIGHBOUR: 'it returns false'. Refute it at one input. -/
def fnBurstWrong : ChangeSpec := { name := "fnBurst", fn := fun _ => fun
  | [d1, d2] => { results := [.lit (.bool false)], args := [d1, d2] }
  | _ => none }
def FnBurstWrongFalsely : Prop := fnBurstRow.holds Try.pinned (OpenSpec.ofChange fnBurstWrong)

/-- 'laws.FnExactTreeDrop': WHATEVER THE INPUT: true; the input reads as it did. -/
def fnExactTreeDropSpec : ChangeSpec := { name := "fnExactTreeDrop", fn := fun _ => fun
  | [d1, d2, d3] => { results := [.lit (.bool true)], args := [d1, d2, d3] }
  | _ => none }
def fnExactTreeDropRow : OpenClaim := { program := "ytemccfonjeppjaa", sum := "b98fef0ead69e850972dba3d18d9bd0c025e6d5fda770eaa4006c09a7e257221", func := "loop.example/g00208/laws.FnExactTreeDrop", spec := "fnExactTreeDrop", unfollowed := true, recurses := true, apart := false }
def FnExactTreeDropSaid : Prop := fnExactTreeDropRow.holds Try.pinned (OpenSpec.ofChange fnExactTreeDropSpec)

/-- ITS FALSE NEIGHBOUR: 'it returns false'. Refute it at one input. -/
def fnExactTreeDropWrong : ChangeSpec := { name := "fnExactTreeDrop", fn := fun _ => fun
  | [d1, d2, d3] => { results := [.lit (.bool false)], args := [d1, d2, d3] }
  | _ => none }
def FnExactTreeDropWrongFalsely : Prop := fnExactTreeDropRow.holds Try.pinned (OpenSpec.ofChange fnExactTreeDropWrong)

/- THE SECOND FORM. 'bulk': how many values and letters a reading holds, each counted each time it is reached (what is shared counts as often as it is met; a slice's spare places count too). A statement '..UptoSaid' is the law's where the arguments, and the package variables that the reading takes, are together of bulk at most 1048576: NARROWER than '..Said'. Prove '..Said' where nothing that the law and all that it calls make is longer than what came in: it says more and counts as full. Else prove '..UptoSaid'. A law counts once. -/
mutual
def uptoBulk {H : Type} : DataW H → Nat
  | .lit (.string bytes) => bytes.length + 1
  | .lit _ => 1
  | .nil => 1
  | .ptr d => uptoBulk d + 1
  | .slice elems spare => uptoBulkAll elems + uptoBulkAll spare + 1
  | .agg parts => uptoBulkAll parts + 1
  | .iface _ d => uptoBulk d + 1
  | .map entries => uptoBulkEntries entries + 1
  | .held _ => 1
def uptoBulkAll {H : Type} : List (DataW H) → Nat
  | [] => 0
  | d :: r => uptoBulk d + uptoBulkAll r
def uptoBulkEntries {H : Type} : List (Lit × DataW H) → Nat
  | [] => 0
  | x :: r => uptoBulkEntry x + uptoBulkEntries r
def uptoBulkEntry {H : Type} : Lit × DataW H → Nat
  | (.string bytes, d) => bytes.length + uptoBulk d + 1
  | (_, d) => uptoBulk d + 1
 end
def uptoSmall : (H : Type) → List (DataW H) → Bool := fun _ ds => decide (uptoBulkAll ds ≤ 1048576)
def OpenSpec.upto (s : _root_.Go.ChangeSpec) : _root_.Go.OpenSpec := { _root_.Go.OpenSpec.ofChange s with cond := some uptoSmall }

/-- 'laws.FnExactRestoreOK', WHERE WHAT IT READS IS OF BULK AT MOST 1048576: true; the input reads as it did. -/
def fnExactRestoreOKUptoRow : OpenClaim := { program := "ytemccfonjeppjaa", sum := "b98fef0ead69e850972dba3d18d9bd0c025e6d5fda770eaa4006c09a7e257221", func := "loop.example/g00208/laws.FnExactRestoreOK", spec := "fnExactRestoreOK", apart := false, narrowed := true }
def FnExactRestoreOKUptoSaid : Prop := fnExactRestoreOKUptoRow.holds Try.pinned (OpenSpec.upto fnExactRestoreOKSpec)

/-- 'laws.FnExactRestoreChunk', WHERE WHAT IT READS IS OF BULK AT MOST 1048576: true; the input reads as it did. -/
def fnExactRestoreChunkUptoRow : OpenClaim := { program := "ytemccfonjeppjaa", sum := "b98fef0ead69e850972dba3d18d9bd0c025e6d5fda770eaa4006c09a7e257221", func := "loop.example/g00208/laws.FnExactRestoreChunk", spec := "fnExactRestoreChunk", unfollowed := true, recurses := true, apart := false, narrowed := true }
def FnExactRestoreChunkUptoSaid : Prop := fnExactRestoreChunkUptoRow.holds Try.pinned (OpenSpec.upto fnExactRestoreChunkSpec)

/-- 'laws.FnExactSealBytes', WHERE WHAT IT READS IS OF BULK AT MOST 1048576: true; the input reads as it did. -/
def fnExactSealBytesUptoRow : OpenClaim := { program := "ytemccfonjeppjaa", sum := "b98fef0ead69e850972dba3d18d9bd0c025e6d5fda770eaa4006c09a7e257221", func := "loop.example/g00208/laws.FnExactSealBytes", spec := "fnExactSealBytes", apart := false, narrowed := true }
def FnExactSealBytesUptoSaid : Prop := fnExactSealBytesUptoRow.holds Try.pinned (OpenSpec.upto fnExactSealBytesSpec)

/-- 'laws.FnExactBackupChunks', WHERE WHAT IT READS IS OF BULK AT MOST 1048576: true; the input reads as it did. -/
def fnExactBackupChunksUptoRow : OpenClaim := { program := "ytemccfonjeppjaa", sum := "b98fef0ead69e850972dba3d18d9bd0c025e6d5fda770eaa4006c09a7e257221", func := "loop.example/g00208/laws.FnExactBackupChunks", spec := "fnExactBackupChunks", apart := false, narrowed := true }
def FnExactBackupChunksUptoSaid : Prop := fnExactBackupChunksUptoRow.holds Try.pinned (OpenSpec.upto fnExactBackupChunksSpec)

/-- 'laws.FnExactOpenSeal', WHERE WHAT IT READS IS OF BULK AT MOST 1048576: true; the input reads as it did. -/
def fnExactOpenSealUptoRow : OpenClaim := { program := "ytemccfonjeppjaa", sum := "b98fef0ead69e850972dba3d18d9bd0c025e6d5fda770eaa4006c09a7e257221", func := "loop.example/g00208/laws.FnExactOpenSeal", spec := "fnExactOpenSeal", apart := false, narrowed := true }
def FnExactOpenSealUptoSaid : Prop := fnExactOpenSealUptoRow.holds Try.pinned (OpenSpec.upto fnExactOpenSealSpec)

/-- 'laws.FnExactGuardStep', WHERE WHAT IT READS IS OF BULK AT MOST 1048576: true; the input reads as it did. -/
def fnExactGuardStepUptoRow : OpenClaim := { program := "ytemccfonjeppjaa", sum := "b98fef0ead69e850972dba3d18d9bd0c025e6d5fda770eaa4006c09a7e257221", func := "loop.example/g00208/laws.FnExactGuardStep", spec := "fnExactGuardStep", unfollowed := true, recurses := true, apart := false, narrowed := true }
def FnExactGuardStepUptoSaid : Prop := fnExactGuardStepUptoRow.holds Try.pinned (OpenSpec.upto fnExactGuardStepSpec)

/-- 'laws.FnExactReadRow', WHERE WHAT IT READS IS OF BULK AT MOST 1048576: true; the input reads as it did. -/
def fnExactReadRowUptoRow : OpenClaim := { program := "ytemccfonjeppjaa", sum := "b98fef0ead69e850972dba3d18d9bd0c025e6d5fda770eaa4006c09a7e257221", func := "loop.example/g00208/laws.FnExactReadRow", spec := "fnExactReadRow", unfollowed := true, recurses := true, apart := false, narrowed := true }
def FnExactReadRowUptoSaid : Prop := fnExactReadRowUptoRow.holds Try.pinned (OpenSpec.upto fnExactReadRowSpec)

/-- 'laws.FnExactHistoryOf', WHERE WHAT IT READS IS OF BULK AT MOST 1048576: true; the input reads as it did. -/
def fnExactHistoryOfUptoRow : OpenClaim := { program := "ytemccfonjeppjaa", sum := "b98fef0ead69e850972dba3d18d9bd0c025e6d5fda770eaa4006c09a7e257221", func := "loop.example/g00208/laws.FnExactHistoryOf", spec := "fnExactHistoryOf", unfollowed := true, recurses := true, apart := false, narrowed := true }
def FnExactHistoryOfUptoSaid : Prop := fnExactHistoryOfUptoRow.holds Try.pinned (OpenSpec.upto fnExactHistoryOfSpec)

/-- 'laws.FnExactReadKey', WHERE WHAT IT READS IS OF BULK AT MOST 1048576: true; the input reads as it did. -/
def fnExactReadKeyUptoRow : OpenClaim := { program := "ytemccfonjeppjaa", sum := "b98fef0ead69e850972dba3d18d9bd0c025e6d5fda770eaa4006c09a7e257221", func := "loop.example/g00208/laws.FnExactReadKey", spec := "fnExactReadKey", unfollowed := true, recurses := true, apart := false, narrowed := true }
def FnExactReadKeyUptoSaid : Prop := fnExactReadKeyUptoRow.holds Try.pinned (OpenSpec.upto fnExactReadKeySpec)

/-- 'laws.FnBurst', WHERE WHAT IT READS IS OF BULK AT MOST 1048576: true; the input reads as it did. -/
def fnBurstUptoRow : OpenClaim := { program := "ytemccfonjeppjaa", sum := "b98fef0ead69e850972dba3d18d9bd0c025e6d5fda770eaa4006c09a7e257221", func := "loop.example/g00208/laws.FnBurst", spec := "fnBurst", recurses := true, apart := false, narrowed := true }
def FnBurstUptoSaid : Prop := fnBurstUptoRow.holds Try.pinned (OpenSpec.upto fnBurstSpec)

/-- 'laws.FnExactTreeDrop', WHERE WHAT IT READS IS OF BULK AT MOST 1048576: true; the input reads as it did. -/
def fnExactTreeDropUptoRow : OpenClaim := { program := "ytemccfonjeppjaa", sum := "b98fef0ead69e850972dba3d18d9bd0c025e6d5fda770eaa4006c09a7e257221", func := "loop.example/g00208/laws.FnExactTreeDrop", spec := "fnExactTreeDrop", unfollowed := true, recurses := true, apart := false, narrowed := true }
def FnExactTreeDropUptoSaid : Prop := fnExactTreeDropUptoRow.holds Try.pinned (OpenSpec.upto fnExactTreeDropSpec)

end Rows
end Go.Proofs.Ytemccfonjeppjaa
