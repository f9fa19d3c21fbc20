/-
  NARROWER THAN 'FOR EVERY INPUT', by the rows' own cells (each row's printed sentence says how): FnExactPlanRows: laid · FnExactRuleOK: loops, laid · FnExactMatchRules: loops, laid · FnExactPlanSql: loops, laid.
  DERIVED. THE GIVEN ROWS OF THIS SEAT. 4 by the template 'for every input the law returns true; each argument reads behind the call as it read before'; 0 by the template 'total and deterministic' (their statements: YtfihkpknhkbciaaGreatDoorTotals.lean).
  GIVEN WITH THE SEED: the statements are not yours to turn. If you find one false, say at which input.
  Laid BY PROGRAM, IN A SANDBOX (cutbox-rows.mjs): the forced cells as the released guide's own fill.sh prints them over the translation e9b74356ec432163… (all of the seat's roots in one cut). By AI agents, Wed Nov 11 2026. No macro, syntax, notation, axiom, sorry.
-/
import Derived.Test.YtfihkpknhkbciaaGreatDoorChecked
import GoSem.PinnedTables
import GoSem.Claim
import GoSem.ClaimJoined
import GoSem.ClaimMapViews
import Derived.JoinedTies
import Derived.KernelRfl
namespace Go.Proofs.YtfihkpknhkbciaaGreatDoor
/- THE CELL 'sum', in the pinned program and in every row, IS THE sha256 OF THE DUMP (.gsa) THAT YtfihkpknhkbciaaGreatDoorProg.lean LOADS. Nothing in Lean hashes anything: it is a label: what it is worth is what the hold of that sum in a sandbox is worth. -/
noncomputable def Tryz.pinned : Pinned := { name := "ytfihkpknhkbciaagreatdoor", sum := "e9b74356ec432163479a78f39ef3b2b69adddf7d63745eba9e63d3317a88c28a", checked := Tryz.checked }
namespace Rows
def none {H : Type} : Left H := { results := [], args := [] }

/- WHAT THE LISTED PACKAGE-LEVEL VARIABLES READ AS WHEN THE CALL BEGINS. Each datum BY PROGRAM (the guide's laid-datum.mjs) off the statement by which the dump's own 'gosem.cut.vars' lays the variable. In a bare row this is a premise. The card (YtfihkpknhkbciaaGreatDoorCards.lean) ties it to the program's text. -/
def laid_unicode_utf8_acceptRanges {H : Type} : DataW H := .agg [.agg [.lit (.int .u8 128), .lit (.int .u8 191)], .agg [.lit (.int .u8 160), .lit (.int .u8 191)], .agg [.lit (.int .u8 128), .lit (.int .u8 159)], .agg [.lit (.int .u8 144), .lit (.int .u8 191)], .agg [.lit (.int .u8 128), .lit (.int .u8 143)], .agg [.lit (.int .u8 0), .lit (.int .u8 0)], .agg [.lit (.int .u8 0), .lit (.int .u8 0)], .agg [.lit (.int .u8 0), .lit (.int .u8 0)], .agg [.lit (.int .u8 0), .lit (.int .u8 0)], .agg [.lit (.int .u8 0), .lit (.int .u8 0)], .agg [.lit (.int .u8 0), .lit (.int .u8 0)], .agg [.lit (.int .u8 0), .lit (.int .u8 0)], .agg [.lit (.int .u8 0), .lit (.int .u8 0)], .agg [.lit (.int .u8 0), .lit (.int .u8 0)], .agg [.lit (.int .u8 0), .lit (.int .u8 0)], .agg [.lit (.int .u8 0), .lit (.int .u8 0)]]
/-- One of Go's own tables, pinned by name: the form's constant. -/
def laid_unicode_utf8_first : DataW Unit := Go.Pinned.utf8First

/-- 'laws.FnExactPlanRows': WHATEVER THE INPUT: true; the input reads as it did. -/
def fnExactPlanRowsSpec : ChangeSpec := { name := "fnExactPlanRows", fn := fun _ => fun
  | [d1, d2, d3] => { results := [.lit (.bool true)], args := [d1, d2, d3] }
  | _ => none }
def fnExactPlanRowsRow : OpenClaim := { program := "ytfihkpknhkbciaagreatdoor", sum := "e9b74356ec432163479a78f39ef3b2b69adddf7d63745eba9e63d3317a88c28a", func := "loop.example/g00208/laws.FnExactPlanRows", spec := "fnExactPlanRows", inPlace := ["internal/bytealg.CountString", "internal/bytealg.IndexByteString", "internal/bytealg.IndexString", "internal/abi.NoEscape", "internal/bytealg.MakeNoZero", "internal/bytealg.Compare"], unfollowed := true, recurses := true, named := ["unicode/utf8.first", "unicode/utf8.acceptRanges", "internal/bytealg.MaxLen"], apart := false, laid := [("unicode/utf8.acceptRanges", laid_unicode_utf8_acceptRanges), ("unicode/utf8.first", laid_unicode_utf8_first)] }
def FnExactPlanRowsSaid : Prop := fnExactPlanRowsRow.holds Tryz.pinned (OpenSpec.ofChange fnExactPlanRowsSpec)

/-- ITS FALSE NEIGHBOUR: 'it returns false'. Refute it at one input. -/
def fnExactPlanRowsWrong : ChangeSpec := { name := "fnExactPlanRows", fn := fun _ => fun
  | [d1, d2, d3] => { results := [.lit (.bool false)], args := [d1, d2, d3] }
  | _ => none }
def FnExactPlanRowsWrongFalsely : Prop := fnExactPlanRowsRow.holds Tryz.pinned (OpenSpec.ofChange fnExactPlanRowsWrong)

/-- 'laws.FnExactRuleOK': WHATEVER THE INPUT: true; the input reads as it did. -/
def fnExactRuleOKSpec : ChangeSpec := { name := "fnExactRuleOK", fn := fun _ => fun
  | [d1, d2] => { results := [.lit (.bool true)], args := [d1, d2] }
  | _ => none }
def fnExactRuleOKRow : OpenClaim := { program := "ytfihkpknhkbciaagreatdoor", sum := "e9b74356ec432163479a78f39ef3b2b69adddf7d63745eba9e63d3317a88c28a", func := "loop.example/g00208/laws.FnExactRuleOK", spec := "fnExactRuleOK", inPlace := ["internal/bytealg.CountString", "internal/bytealg.IndexByteString", "internal/bytealg.IndexString"], unfollowed := true, recurses := true, named := ["unicode/utf8.first", "unicode/utf8.acceptRanges", "internal/bytealg.MaxLen"], loops := true, apart := false, laid := [("unicode/utf8.acceptRanges", laid_unicode_utf8_acceptRanges), ("unicode/utf8.first", laid_unicode_utf8_first)] }
def FnExactRuleOKSaid : Prop := fnExactRuleOKRow.holds Tryz.pinned (OpenSpec.ofChange fnExactRuleOKSpec)

/-- ITS FALSE NEIGHBOUR: 'it returns false'. Refute it at one input. -/
def fnExactRuleOKWrong : ChangeSpec := { name := "fnExactRuleOK", fn := fun _ => fun
  | [d1, d2] => { results := [.lit (.bool false)], args := [d1, d2] }
  | _ => none }
def FnExactRuleOKWrongFalsely : Prop := fnExactRuleOKRow.holds Tryz.pinned (OpenSpec.ofChange fnExactRuleOKWrong)

/-- 'laws.FnExactMatchRules': WHATEVER THE INPUT: true; the input reads as it did. -/
def fnExactMatchRulesSpec : ChangeSpec := { name := "fnExactMatchRules", fn := fun _ => fun
  | [d1, d2, d3] => { results := [.lit (.bool true)], args := [d1, d2, d3] }
  | _ => none }
def fnExactMatchRulesRow : OpenClaim := { program := "ytfihkpknhkbciaagreatdoor", sum := "e9b74356ec432163479a78f39ef3b2b69adddf7d63745eba9e63d3317a88c28a", func := "loop.example/g00208/laws.FnExactMatchRules", spec := "fnExactMatchRules", inPlace := ["internal/bytealg.CountString", "internal/bytealg.IndexByteString", "internal/bytealg.IndexString"], unfollowed := true, recurses := true, named := ["unicode/utf8.first", "unicode/utf8.acceptRanges", "internal/bytealg.MaxLen"], loops := true, apart := false, laid := [("unicode/utf8.acceptRanges", laid_unicode_utf8_acceptRanges), ("unicode/utf8.first", laid_unicode_utf8_first)] }
def FnExactMatchRulesSaid : Prop := fnExactMatchRulesRow.holds Tryz.pinned (OpenSpec.ofChange fnExactMatchRulesSpec)

/-- ITS FALSE NEIGHBOUR: 'it returns false'. Refute it at one input. -/
def fnExactMatchRulesWrong : ChangeSpec := { name := "fnExactMatchRules", fn := fun _ => fun
  | [d1, d2, d3] => { results := [.lit (.bool false)], args := [d1, d2, d3] }
  | _ => none }
def FnExactMatchRulesWrongFalsely : Prop := fnExactMatchRulesRow.holds Tryz.pinned (OpenSpec.ofChange fnExactMatchRulesWrong)

/-- 'laws.FnExactPlanSql': WHATEVER THE INPUT: true; the input reads as it did. -/
def fnExactPlanSqlSpec : ChangeSpec := { name := "fnExactPlanSql", fn := fun _ => fun
  | [d1, d2] => { results := [.lit (.bool true)], args := [d1, d2] }
  | _ => none }
def fnExactPlanSqlRow : OpenClaim := { program := "ytfihkpknhkbciaagreatdoor", sum := "e9b74356ec432163479a78f39ef3b2b69adddf7d63745eba9e63d3317a88c28a", func := "loop.example/g00208/laws.FnExactPlanSql", spec := "fnExactPlanSql", inPlace := ["internal/bytealg.CountString", "internal/bytealg.IndexByteString", "internal/bytealg.IndexString", "internal/abi.NoEscape", "internal/bytealg.MakeNoZero"], unfollowed := true, recurses := true, named := ["unicode/utf8.first", "unicode/utf8.acceptRanges", "internal/bytealg.MaxLen"], loops := true, apart := false, laid := [("unicode/utf8.acceptRanges", laid_unicode_utf8_acceptRanges), ("unicode/utf8.first", laid_unicode_utf8_first)] }
def FnExactPlanSqlSaid : Prop := fnExactPlanSqlRow.holds Tryz.pinned (OpenSpec.ofChange fnExactPlanSqlSpec)

/-- ITS FALSE NEIGHBOUR: 'it returns false'. Refute it at one input. -/
def fnExactPlanSqlWrong : ChangeSpec := { name := "fnExactPlanSql", fn := fun _ => fun
  | [d1, d2] => { results := [.lit (.bool false)], args := [d1, d2] }
  | _ => none }
def FnExactPlanSqlWrongFalsely : Prop := fnExactPlanSqlRow.holds Tryz.pinned (OpenSpec.ofChange fnExactPlanSqlWrong)

/- THE SECOND FORM. 'bulk': how many values and letters a reading holds, each counted each time it is reached (what is shared counts as often as it is met; a slice's spare places count too). A statement '..UptoSaid' is the law's where the arguments, and the package variables that the reading takes, are together of bulk at most 1048576: NARROWER than '..Said'. Prove '..Said' where nothing that the law and all that it calls make is longer than what came in: it says more and counts as full. Else prove '..UptoSaid'. A law counts once. -/
mutual
def uptoBulk {H : Type} : DataW H → Nat
  | .lit (.string bytes) => bytes.length + 1
  | .lit _ => 1
  | .nil => 1
  | .ptr d => uptoBulk d + 1
  | .slice elems spare => uptoBulkAll elems + uptoBulkAll spare + 1
  | .agg parts => uptoBulkAll parts + 1
  | .iface _ d => uptoBulk d + 1
  | .map entries => uptoBulkEntries entries + 1
  | .held _ => 1
def uptoBulkAll {H : Type} : List (DataW H) → Nat
  | [] => 0
  | d :: r => uptoBulk d + uptoBulkAll r
def uptoBulkEntries {H : Type} : List (Lit × DataW H) → Nat
  | [] => 0
  | x :: r => uptoBulkEntry x + uptoBulkEntries r
def uptoBulkEntry {H : Type} : Lit × DataW H → Nat
  | (.string bytes, d) => bytes.length + uptoBulk d + 1
  | (_, d) => uptoBulk d + 1
 end
def uptoSmall : (H : Type) → List (DataW H) → Bool := fun _ ds => decide (uptoBulkAll ds ≤ 1048576)
def OpenSpec.upto (s : _root_.Go.ChangeSpec) : _root_.Go.OpenSpec := { _root_.Go.OpenSpec.ofChange s with cond := some uptoSmall }

/-- 'laws.FnExactPlanRows', WHERE WHAT IT READS IS OF BULK AT MOST 1048576: true; the input reads as it did. -/
def fnExactPlanRowsUptoRow : OpenClaim := { program := "ytfihkpknhkbciaagreatdoor", sum := "e9b74356ec432163479a78f39ef3b2b69adddf7d63745eba9e63d3317a88c28a", func := "loop.example/g00208/laws.FnExactPlanRows", spec := "fnExactPlanRows", inPlace := ["internal/bytealg.CountString", "internal/bytealg.IndexByteString", "internal/bytealg.IndexString", "internal/abi.NoEscape", "internal/bytealg.MakeNoZero", "internal/bytealg.Compare"], unfollowed := true, recurses := true, named := ["unicode/utf8.first", "unicode/utf8.acceptRanges", "internal/bytealg.MaxLen"], apart := false, laid := [("unicode/utf8.acceptRanges", laid_unicode_utf8_acceptRanges), ("unicode/utf8.first", laid_unicode_utf8_first)], narrowed := true }
def FnExactPlanRowsUptoSaid : Prop := fnExactPlanRowsUptoRow.holds Tryz.pinned (OpenSpec.upto fnExactPlanRowsSpec)

/-- 'laws.FnExactRuleOK', WHERE WHAT IT READS IS OF BULK AT MOST 1048576: true; the input reads as it did. -/
def fnExactRuleOKUptoRow : OpenClaim := { program := "ytfihkpknhkbciaagreatdoor", sum := "e9b74356ec432163479a78f39ef3b2b69adddf7d63745eba9e63d3317a88c28a", func := "loop.example/g00208/laws.FnExactRuleOK", spec := "fnExactRuleOK", inPlace := ["internal/bytealg.CountString", "internal/bytealg.IndexByteString", "internal/bytealg.IndexString"], unfollowed := true, recurses := true, named := ["unicode/utf8.first", "unicode/utf8.acceptRanges", "internal/bytealg.MaxLen"], loops := true, apart := false, laid := [("unicode/utf8.acceptRanges", laid_unicode_utf8_acceptRanges), ("unicode/utf8.first", laid_unicode_utf8_first)], narrowed := true }
def FnExactRuleOKUptoSaid : Prop := fnExactRuleOKUptoRow.holds Tryz.pinned (OpenSpec.upto fnExactRuleOKSpec)

/-- 'laws.FnExactMatchRules', WHERE WHAT IT READS IS OF BULK AT MOST 1048576: true; the input reads as it did. -/
def fnExactMatchRulesUptoRow : OpenClaim := { program := "ytfihkpknhkbciaagreatdoor", sum := "e9b74356ec432163479a78f39ef3b2b69adddf7d63745eba9e63d3317a88c28a", func := "loop.example/g00208/laws.FnExactMatchRules", spec := "fnExactMatchRules", inPlace := ["internal/bytealg.CountString", "internal/bytealg.IndexByteString", "internal/bytealg.IndexString"], unfollowed := true, recurses := true, named := ["unicode/utf8.first", "unicode/utf8.acceptRanges", "internal/bytealg.MaxLen"], loops := true, apart := false, laid := [("unicode/utf8.acceptRanges", laid_unicode_utf8_acceptRanges), ("unicode/utf8.first", laid_unicode_utf8_first)], narrowed := true }
def FnExactMatchRulesUptoSaid : Prop := fnExactMatchRulesUptoRow.holds Tryz.pinned (OpenSpec.upto fnExactMatchRulesSpec)

/-- 'laws.FnExactPlanSql', WHERE WHAT IT READS IS OF BULK AT MOST 1048576: true; the input reads as it did. -/
def fnExactPlanSqlUptoRow : OpenClaim := { program := "ytfihkpknhkbciaagreatdoor", sum := "e9b74356ec432163479a78f39ef3b2b69adddf7d63745eba9e63d3317a88c28a", func := "loop.example/g00208/laws.FnExactPlanSql", spec := "fnExactPlanSql", inPlace := ["internal/bytealg.CountString", "internal/bytealg.IndexByteString", "internal/bytealg.IndexString", "internal/abi.NoEscape", "internal/bytealg.MakeNoZero"], unfollowed := true, recurses := true, named := ["unicode/utf8.first", "unicode/utf8.acceptRanges", "internal/bytealg.MaxLen"], loops := true, apart := false, laid := [("unicode/utf8.acceptRanges", laid_unicode_utf8_acceptRanges), ("unicode/utf8.first", laid_unicode_utf8_first)], narrowed := true }
def FnExactPlanSqlUptoSaid : Prop := fnExactPlanSqlUptoRow.holds Tryz.pinned (OpenSpec.upto fnExactPlanSqlSpec)

end Rows
end Go.Proofs.YtfihkpknhkbciaaGreatDoor
