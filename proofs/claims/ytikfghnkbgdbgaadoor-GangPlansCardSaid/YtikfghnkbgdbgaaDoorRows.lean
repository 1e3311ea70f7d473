/-
  NARROWER THAN 'FOR EVERY INPUT', by the rows' own cells (each row's printed sentence says how): GangMays: laid · GangDones: laid · GangPlans: laid · GangRules: laid · GangReach: laid · GangTrue: laid · GangPlan: laid · GangNone: laid · GangMost: laid · GangFirst: laid · GangMore: laid · GangKnown: laid.
  DERIVED. THE GIVEN ROWS OF THIS SEAT. 12 by the template 'for every input the law returns true; each argument reads behind the call as it read before'; 0 by the template 'total and deterministic' (their statements: YtikfghnkbgdbgaaDoorTotals.lean).
  GIVEN WITH THE SEED: the statements are not yours to turn. If you find one false, say at which input.
  Laid BY PROGRAM, IN A SANDBOX (cutbox-rows.mjs): the forced cells as the released guide's own fill.sh prints them over the translation 37ae2fd07b3a0578… (all of the seat's roots in one cut). By AI agents, Wed Nov 11 2026. No macro, syntax, notation, axiom, sorry.
-/
import Derived.Test.YtikfghnkbgdbgaaDoorChecked
import GoSem.Claim
import GoSem.ClaimJoined
import GoSem.ClaimMapViews
import Derived.JoinedTies
import Derived.KernelRfl
namespace Go.Proofs.YtikfghnkbgdbgaaDoor
/- THE CELL 'sum', in the pinned program and in every row, IS THE sha256 OF THE DUMP (.gsa) THAT YtikfghnkbgdbgaaDoorProg.lean LOADS. Nothing in Lean hashes anything: it is a label: what it is worth is what the hold of that sum in a sandbox is worth. -/
noncomputable def Tryd.pinned : Pinned := { name := "ytikfghnkbgdbgaadoor", sum := "37ae2fd07b3a0578b386b1f67bc45d7def0cd40a372d682fec12bb22ebdf5908", checked := Tryd.checked }
namespace Rows
def none {H : Type} : Left H := { results := [], args := [] }

/- WHAT THE LISTED PACKAGE-LEVEL VARIABLES READ AS WHEN THE CALL BEGINS. Each datum BY PROGRAM (the guide's laid-datum.mjs) off the statement by which the dump's own 'gosem.cut.vars' lays the variable. In a bare row this is a premise. The card (YtikfghnkbgdbgaaDoorCards.lean) ties it to the program's text. -/
def laid_macadam_gang_nowhere {H : Type} : DataW H := .agg [.lit (.int .i64 (-1)), .lit (.int .i64 (-1))]
def laid_macadam_gang_works {H : Type} : DataW H := .iface "func table" (.agg [.iface "func" (.lit (.string [40, 109, 97, 99, 97, 100, 97, 109, 47, 103, 97, 110, 103, 46, 103, 97, 110, 103, 41, 46, 108, 101, 97, 115, 116])), .iface "func" (.lit (.string [40, 109, 97, 99, 97, 100, 97, 109, 47, 103, 97, 110, 103, 46, 103, 97, 110, 103, 41, 46, 109, 111, 115, 116]))])

/-- 'macadamlaw04.GangMays': WHATEVER THE INPUT: true; the input reads as it did. -/
def gangMaysSpec : ChangeSpec := { name := "gangMays", fn := fun _ => fun
  | [d1, d2, d3] => { results := [.lit (.bool true)], args := [d1, d2, d3] }
  | _ => none }
def gangMaysRow : OpenClaim := { program := "ytikfghnkbgdbgaadoor", sum := "37ae2fd07b3a0578b386b1f67bc45d7def0cd40a372d682fec12bb22ebdf5908", func := "macadam/macadamlaw04.GangMays", spec := "gangMays", unfollowed := true, recurses := true, named := ["macadam/gang.nowhere", "macadam/gang.works"], plainKeys := false, apart := false, laid := [("macadam/gang.nowhere", laid_macadam_gang_nowhere), ("macadam/gang.works", laid_macadam_gang_works)] }
def GangMaysSaid : Prop := gangMaysRow.holds Tryd.pinned (OpenSpec.ofChange gangMaysSpec)

/-- ITS FALSE NEIGHBOUR: 'it returns false'. Refute it at one input. -/
def gangMaysWrong : ChangeSpec := { name := "gangMays", fn := fun _ => fun
  | [d1, d2, d3] => { results := [.lit (.bool false)], args := [d1, d2, d3] }
  | _ => none }
def GangMaysWrongFalsely : Prop := gangMaysRow.holds Tryd.pinned (OpenSpec.ofChange gangMaysWrong)

/-- 'macadamlaw04.GangDones': WHATEVER THE INPUT: true; the input reads as it did. -/
def gangDonesSpec : ChangeSpec := { name := "gangDones", fn := fun _ => fun
  | [d1, d2, d3] => { results := [.lit (.bool true)], args := [d1, d2, d3] }
  | _ => none }
def gangDonesRow : OpenClaim := { program := "ytikfghnkbgdbgaadoor", sum := "37ae2fd07b3a0578b386b1f67bc45d7def0cd40a372d682fec12bb22ebdf5908", func := "macadam/macadamlaw04.GangDones", spec := "gangDones", unfollowed := true, recurses := true, named := ["macadam/gang.nowhere", "macadam/gang.works"], plainKeys := false, apart := false, laid := [("macadam/gang.nowhere", laid_macadam_gang_nowhere), ("macadam/gang.works", laid_macadam_gang_works)] }
def GangDonesSaid : Prop := gangDonesRow.holds Tryd.pinned (OpenSpec.ofChange gangDonesSpec)

/-- ITS FALSE NEIGHBOUR: 'it returns false'. Refute it at one input. -/
def gangDonesWrong : ChangeSpec := { name := "gangDones", fn := fun _ => fun
  | [d1, d2, d3] => { results := [.lit (.bool false)], args := [d1, d2, d3] }
  | _ => none }
def GangDonesWrongFalsely : Prop := gangDonesRow.holds Tryd.pinned (OpenSpec.ofChange gangDonesWrong)

/-- 'macadamlaw04.GangPlans': WHATEVER THE INPUT: true; the input reads as it did. -/
def gangPlansSpec : ChangeSpec := { name := "gangPlans", fn := fun _ => fun
  | [d] => { results := [.lit (.bool true)], args := [d] }
  | _ => none }
def gangPlansRow : OpenClaim := { program := "ytikfghnkbgdbgaadoor", sum := "37ae2fd07b3a0578b386b1f67bc45d7def0cd40a372d682fec12bb22ebdf5908", func := "macadam/macadamlaw04.GangPlans", spec := "gangPlans", unfollowed := true, recurses := true, named := ["macadam/gang.nowhere", "macadam/gang.works"], plainKeys := false, apart := false, laid := [("macadam/gang.nowhere", laid_macadam_gang_nowhere), ("macadam/gang.works", laid_macadam_gang_works)] }
def GangPlansSaid : Prop := gangPlansRow.holds Tryd.pinned (OpenSpec.ofChange gangPlansSpec)

/-- ITS FALSE NEIGHBOUR: 'it returns false'. Refute it at one input. -/
def gangPlansWrong : ChangeSpec := { name := "gangPlans", fn := fun _ => fun
  | [d] => { results := [.lit (.bool false)], args := [d] }
  | _ => none }
def GangPlansWrongFalsely : Prop := gangPlansRow.holds Tryd.pinned (OpenSpec.ofChange gangPlansWrong)

/-- 'macadamlaw04.GangRules': WHATEVER THE INPUT: true; the input reads as it did. -/
def gangRulesSpec : ChangeSpec := { name := "gangRules", fn := fun _ => fun
  | [d1, d2, d3] => { results := [.lit (.bool true)], args := [d1, d2, d3] }
  | _ => none }
def gangRulesRow : OpenClaim := { program := "ytikfghnkbgdbgaadoor", sum := "37ae2fd07b3a0578b386b1f67bc45d7def0cd40a372d682fec12bb22ebdf5908", func := "macadam/macadamlaw04.GangRules", spec := "gangRules", unfollowed := true, recurses := true, named := ["macadam/gang.nowhere", "macadam/gang.works"], plainKeys := false, apart := false, laid := [("macadam/gang.nowhere", laid_macadam_gang_nowhere), ("macadam/gang.works", laid_macadam_gang_works)] }
def GangRulesSaid : Prop := gangRulesRow.holds Tryd.pinned (OpenSpec.ofChange gangRulesSpec)

/-- ITS FALSE NEIGHBOUR: 'it returns false'. Refute it at one input. -/
def gangRulesWrong : ChangeSpec := { name := "gangRules", fn := fun _ => fun
  | [d1, d2, d3] => { results := [.lit (.bool false)], args := [d1, d2, d3] }
  | _ => none }
def GangRulesWrongFalsely : Prop := gangRulesRow.holds Tryd.pinned (OpenSpec.ofChange gangRulesWrong)

/-- 'macadamlaw04.GangReach': WHATEVER THE INPUT: true; the input reads as it did. -/
def gangReachSpec : ChangeSpec := { name := "gangReach", fn := fun _ => fun
  | [d1, d2] => { results := [.lit (.bool true)], args := [d1, d2] }
  | _ => none }
def gangReachRow : OpenClaim := { program := "ytikfghnkbgdbgaadoor", sum := "37ae2fd07b3a0578b386b1f67bc45d7def0cd40a372d682fec12bb22ebdf5908", func := "macadam/macadamlaw04.GangReach", spec := "gangReach", unfollowed := true, recurses := true, named := ["macadam/gang.nowhere", "macadam/gang.works"], plainKeys := false, apart := false, laid := [("macadam/gang.nowhere", laid_macadam_gang_nowhere), ("macadam/gang.works", laid_macadam_gang_works)] }
def GangReachSaid : Prop := gangReachRow.holds Tryd.pinned (OpenSpec.ofChange gangReachSpec)

/-- ITS FALSE NEIGHBOUR: 'it returns false'. Refute it at one input. -/
def gangReachWrong : ChangeSpec := { name := "gangReach", fn := fun _ => fun
  | [d1, d2] => { results := [.lit (.bool false)], args := [d1, d2] }
  | _ => none }
def GangReachWrongFalsely : Prop := gangReachRow.holds Tryd.pinned (OpenSpec.ofChange gangReachWrong)

/-- 'macadamlaw04.GangTrue': WHATEVER THE INPUT: true; the input reads as it did. -/
def gangTrueSpec : ChangeSpec := { name := "gangTrue", fn := fun _ => fun
  | [d1, d2, d3] => { results := [.lit (.bool true)], args := [d1, d2, d3] }
  | _ => none }
def gangTrueRow : OpenClaim := { program := "ytikfghnkbgdbgaadoor", sum := "37ae2fd07b3a0578b386b1f67bc45d7def0cd40a372d682fec12bb22ebdf5908", func := "macadam/macadamlaw04.GangTrue", spec := "gangTrue", unfollowed := true, recurses := true, named := ["macadam/gang.nowhere", "macadam/gang.works"], plainKeys := false, apart := false, laid := [("macadam/gang.nowhere", laid_macadam_gang_nowhere), ("macadam/gang.works", laid_macadam_gang_works)] }
def GangTrueSaid : Prop := gangTrueRow.holds Tryd.pinned (OpenSpec.ofChange gangTrueSpec)

/-- ITS FALSE NEIGHBOUR: 'it returns false'. Refute it at one input. -/
def gangTrueWrong : ChangeSpec := { name := "gangTrue", fn := fun _ => fun
  | [d1, d2, d3] => { results := [.lit (.bool false)], args := [d1, d2, d3] }
  | _ => none }
def GangTrueWrongFalsely : Prop := gangTrueRow.holds Tryd.pinned (OpenSpec.ofChange gangTrueWrong)

/-- 'macadamlaw04.GangPlan': WHATEVER THE INPUT: true; the input reads as it did. -/
def gangPlanSpec : ChangeSpec := { name := "gangPlan", fn := fun _ => fun
  | [d1, d2] => { results := [.lit (.bool true)], args := [d1, d2] }
  | _ => none }
def gangPlanRow : OpenClaim := { program := "ytikfghnkbgdbgaadoor", sum := "37ae2fd07b3a0578b386b1f67bc45d7def0cd40a372d682fec12bb22ebdf5908", func := "macadam/macadamlaw04.GangPlan", spec := "gangPlan", unfollowed := true, recurses := true, named := ["macadam/gang.nowhere", "macadam/gang.works"], plainKeys := false, apart := false, laid := [("macadam/gang.nowhere", laid_macadam_gang_nowhere), ("macadam/gang.works", laid_macadam_gang_works)] }
def GangPlanSaid : Prop := gangPlanRow.holds Tryd.pinned (OpenSpec.ofChange gangPlanSpec)

/-- ITS FALSE NEIGHBOUR: 'it returns false'. Refute it at one input. -/
def gangPlanWrong : ChangeSpec := { name := "gangPlan", fn := fun _ => fun
  | [d1, d2] => { results := [.lit (.bool false)], args := [d1, d2] }
  | _ => none }
def GangPlanWrongFalsely : Prop := gangPlanRow.holds Tryd.pinned (OpenSpec.ofChange gangPlanWrong)

/-- 'macadamlaw04.GangNone': WHATEVER THE INPUT: true; the input reads as it did. -/
def gangNoneSpec : ChangeSpec := { name := "gangNone", fn := fun _ => fun
  | [d1, d2] => { results := [.lit (.bool true)], args := [d1, d2] }
  | _ => none }
def gangNoneRow : OpenClaim := { program := "ytikfghnkbgdbgaadoor", sum := "37ae2fd07b3a0578b386b1f67bc45d7def0cd40a372d682fec12bb22ebdf5908", func := "macadam/macadamlaw04.GangNone", spec := "gangNone", unfollowed := true, recurses := true, named := ["macadam/gang.nowhere", "macadam/gang.works"], plainKeys := false, apart := false, laid := [("macadam/gang.nowhere", laid_macadam_gang_nowhere), ("macadam/gang.works", laid_macadam_gang_works)] }
def GangNoneSaid : Prop := gangNoneRow.holds Tryd.pinned (OpenSpec.ofChange gangNoneSpec)

/-- ITS FALSE NEIGHBOUR: 'it returns false'. Refute it at one input. -/
def gangNoneWrong : ChangeSpec := { name := "gangNone", fn := fun _ => fun
  | [d1, d2] => { results := [.lit (.bool false)], args := [d1, d2] }
  | _ => none }
def GangNoneWrongFalsely : Prop := gangNoneRow.holds Tryd.pinned (OpenSpec.ofChange gangNoneWrong)

/-- 'macadamlaw04.GangMost': WHATEVER THE INPUT: true; the input reads as it did. -/
def gangMostSpec : ChangeSpec := { name := "gangMost", fn := fun _ => fun
  | [d1, d2] => { results := [.lit (.bool true)], args := [d1, d2] }
  | _ => none }
def gangMostRow : OpenClaim := { program := "ytikfghnkbgdbgaadoor", sum := "37ae2fd07b3a0578b386b1f67bc45d7def0cd40a372d682fec12bb22ebdf5908", func := "macadam/macadamlaw04.GangMost", spec := "gangMost", unfollowed := true, recurses := true, named := ["macadam/gang.nowhere", "macadam/gang.works"], plainKeys := false, apart := false, laid := [("macadam/gang.nowhere", laid_macadam_gang_nowhere), ("macadam/gang.works", laid_macadam_gang_works)] }
def GangMostSaid : Prop := gangMostRow.holds Tryd.pinned (OpenSpec.ofChange gangMostSpec)

/-- ITS FALSE NEIGHBOUR: 'it returns false'. Refute it at one input. -/
def gangMostWrong : ChangeSpec := { name := "gangMost", fn := fun _ => fun
  | [d1, d2] => { results := [.lit (.bool false)], args := [d1, d2] }
  | _ => none }
def GangMostWrongFalsely : Prop := gangMostRow.holds Tryd.pinned (OpenSpec.ofChange gangMostWrong)

/-- 'macadamlaw04.GangFirst': WHATEVER THE INPUT: true; the input reads as it did. -/
def gangFirstSpec : ChangeSpec := { name := "gangFirst", fn := fun _ => fun
  | [d1, d2] => { results := [.lit (.bool true)], args := [d1, d2] }
  | _ => none }
def gangFirstRow : OpenClaim := { program := "ytikfghnkbgdbgaadoor", sum := "37ae2fd07b3a0578b386b1f67bc45d7def0cd40a372d682fec12bb22ebdf5908", func := "macadam/macadamlaw04.GangFirst", spec := "gangFirst", unfollowed := true, recurses := true, named := ["macadam/gang.nowhere", "macadam/gang.works"], plainKeys := false, apart := false, laid := [("macadam/gang.nowhere", laid_macadam_gang_nowhere), ("macadam/gang.works", laid_macadam_gang_works)] }
def GangFirstSaid : Prop := gangFirstRow.holds Tryd.pinned (OpenSpec.ofChange gangFirstSpec)

/-- ITS FALSE NEIGHBOUR: 'it returns false'. Refute it at one input. -/
def gangFirstWrong : ChangeSpec := { name := "gangFirst", fn := fun _ => fun
  | [d1, d2] => { results := [.lit (.bool false)], args := [d1, d2] }
  | _ => none }
def GangFirstWrongFalsely : Prop := gangFirstRow.holds Tryd.pinned (OpenSpec.ofChange gangFirstWrong)

/-- 'macadamlaw04.GangMore': WHATEVER THE INPUT: true; the input reads as it did. -/
def gangMoreSpec : ChangeSpec := { name := "gangMore", fn := fun _ => fun
  | [d1, d2] => { results := [.lit (.bool true)], args := [d1, d2] }
  | _ => none }
def gangMoreRow : OpenClaim := { program := "ytikfghnkbgdbgaadoor", sum := "37ae2fd07b3a0578b386b1f67bc45d7def0cd40a372d682fec12bb22ebdf5908", func := "macadam/macadamlaw04.GangMore", spec := "gangMore", unfollowed := true, recurses := true, named := ["macadam/gang.nowhere", "macadam/gang.works"], plainKeys := false, apart := false, laid := [("macadam/gang.nowhere", laid_macadam_gang_nowhere), ("macadam/gang.works", laid_macadam_gang_works)] }
def GangMoreSaid : Prop := gangMoreRow.holds Tryd.pinned (OpenSpec.ofChange gangMoreSpec)

/-- ITS FALSE NEIGHBOUR: 'it returns false'. Refute it at one input. -/
def gangMoreWrong : ChangeSpec := { name := "gangMore", fn := fun _ => fun
  | [d1, d2] => { results := [.lit (.bool false)], args := [d1, d2] }
  | _ => none }
def GangMoreWrongFalsely : Prop := gangMoreRow.holds Tryd.pinned (OpenSpec.ofChange gangMoreWrong)

/-- 'macadamlaw04.GangKnown': WHATEVER THE INPUT: true; the input reads as it did. -/
def gangKnownSpec : ChangeSpec := { name := "gangKnown", fn := fun _ => fun
  | [] => { results := [.lit (.bool true)], args := [] }
  | _ => none }
def gangKnownRow : OpenClaim := { program := "ytikfghnkbgdbgaadoor", sum := "37ae2fd07b3a0578b386b1f67bc45d7def0cd40a372d682fec12bb22ebdf5908", func := "macadam/macadamlaw04.GangKnown", spec := "gangKnown", unfollowed := true, recurses := true, named := ["macadam/gang.nowhere", "macadam/gang.works"], plainKeys := false, apart := false, laid := [("macadam/gang.nowhere", laid_macadam_gang_nowhere), ("macadam/gang.works", laid_macadam_gang_works)] }
def GangKnownSaid : Prop := gangKnownRow.holds Tryd.pinned (OpenSpec.ofChange gangKnownSpec)

/-- ITS FALSE NEIGHBOUR: 'it returns false'. Refute it at one input. -/
def gangKnownWrong : ChangeSpec := { name := "gangKnown", fn := fun _ => fun
  | [] => { results := [.lit (.bool false)], args := [] }
  | _ => none }
def GangKnownWrongFalsely : Prop := gangKnownRow.holds Tryd.pinned (OpenSpec.ofChange gangKnownWrong)

/- THE SECOND FORM. 'bulk': how many values and letters a reading holds, each counted each time it is reached (what is shared counts as often as it is met; a slice's spare places count too). A statement '..UptoSaid' is the law's where the arguments, and the package variables that the reading takes, are together of bulk at most 1048576: NARROWER than '..Said'. Prove '..Said' where nothing that the law and all that it calls make is longer than what came in: it says more and counts as full. Else prove '..UptoSaid'. A law counts once. -/
mutual
def uptoBulk {H : Type} : DataW H → Nat
  | .lit (.string bytes) => bytes.length + 1
  | .lit _ => 1
  | .nil => 1
  | .ptr d => uptoBulk d + 1
  | .slice elems spare => uptoBulkAll elems + uptoBulkAll spare + 1
  | .agg parts => uptoBulkAll parts + 1
  | .iface _ d => uptoBulk d + 1
  | .map entries => uptoBulkEntries entries + 1
  | .held _ => 1
def uptoBulkAll {H : Type} : List (DataW H) → Nat
  | [] => 0
  | d :: r => uptoBulk d + uptoBulkAll r
def uptoBulkEntries {H : Type} : List (Lit × DataW H) → Nat
  | [] => 0
  | x :: r => uptoBulkEntry x + uptoBulkEntries r
def uptoBulkEntry {H : Type} : Lit × DataW H → Nat
  | (.string bytes, d) => bytes.length + uptoBulk d + 1
  | (_, d) => uptoBulk d + 1
 end
def uptoSmall : (H : Type) → List (DataW H) → Bool := fun _ ds => decide (uptoBulkAll ds ≤ 1048576)
def OpenSpec.upto (s : _root_.Go.ChangeSpec) : _root_.Go.OpenSpec := { _root_.Go.OpenSpec.ofChange s with cond := some uptoSmall }

/-- 'macadamlaw04.GangMays', WHERE WHAT IT READS IS OF BULK AT MOST 1048576: true; the input reads as it did. -/
def gangMaysUptoRow : OpenClaim := { program := "ytikfghnkbgdbgaadoor", sum := "37ae2fd07b3a0578b386b1f67bc45d7def0cd40a372d682fec12bb22ebdf5908", func := "macadam/macadamlaw04.GangMays", spec := "gangMays", unfollowed := true, recurses := true, named := ["macadam/gang.nowhere", "macadam/gang.works"], plainKeys := false, apart := false, laid := [("macadam/gang.nowhere", laid_macadam_gang_nowhere), ("macadam/gang.works", laid_macadam_gang_works)], narrowed := true }
def GangMaysUptoSaid : Prop := gangMaysUptoRow.holds Tryd.pinned (OpenSpec.upto gangMaysSpec)

/-- 'macadamlaw04.GangDones', WHERE WHAT IT READS IS OF BULK AT MOST 1048576: true; the input reads as it did. -/
def gangDonesUptoRow : OpenClaim := { program := "ytikfghnkbgdbgaadoor", sum := "37ae2fd07b3a0578b386b1f67bc45d7def0cd40a372d682fec12bb22ebdf5908", func := "macadam/macadamlaw04.GangDones", spec := "gangDones", unfollowed := true, recurses := true, named := ["macadam/gang.nowhere", "macadam/gang.works"], plainKeys := false, apart := false, laid := [("macadam/gang.nowhere", laid_macadam_gang_nowhere), ("macadam/gang.works", laid_macadam_gang_works)], narrowed := true }
def GangDonesUptoSaid : Prop := gangDonesUptoRow.holds Tryd.pinned (OpenSpec.upto gangDonesSpec)

/-- 'macadamlaw04.GangPlans', WHERE WHAT IT READS IS OF BULK AT MOST 1048576: true; the input reads as it did. -/
def gangPlansUptoRow : OpenClaim := { program := "ytikfghnkbgdbgaadoor", sum := "37ae2fd07b3a0578b386b1f67bc45d7def0cd40a372d682fec12bb22ebdf5908", func := "macadam/macadamlaw04.GangPlans", spec := "gangPlans", unfollowed := true, recurses := true, named := ["macadam/gang.nowhere", "macadam/gang.works"], plainKeys := false, apart := false, laid := [("macadam/gang.nowhere", laid_macadam_gang_nowhere), ("macadam/gang.works", laid_macadam_gang_works)], narrowed := true }
def GangPlansUptoSaid : Prop := gangPlansUptoRow.holds Tryd.pinned (OpenSpec.upto gangPlansSpec)

/-- 'macadamlaw04.GangRules', WHERE WHAT IT READS IS OF BULK AT MOST 1048576: true; the input reads as it did. -/
def gangRulesUptoRow : OpenClaim := { program := "ytikfghnkbgdbgaadoor", sum := "37ae2fd07b3a0578b386b1f67bc45d7def0cd40a372d682fec12bb22ebdf5908", func := "macadam/macadamlaw04.GangRules", spec := "gangRules", unfollowed := true, recurses := true, named := ["macadam/gang.nowhere", "macadam/gang.works"], plainKeys := false, apart := false, laid := [("macadam/gang.nowhere", laid_macadam_gang_nowhere), ("macadam/gang.works", laid_macadam_gang_works)], narrowed := true }
def GangRulesUptoSaid : Prop := gangRulesUptoRow.holds Tryd.pinned (OpenSpec.upto gangRulesSpec)

/-- 'macadamlaw04.GangReach', WHERE WHAT IT READS IS OF BULK AT MOST 1048576: true; the input reads as it did. -/
def gangReachUptoRow : OpenClaim := { program := "ytikfghnkbgdbgaadoor", sum := "37ae2fd07b3a0578b386b1f67bc45d7def0cd40a372d682fec12bb22ebdf5908", func := "macadam/macadamlaw04.GangReach", spec := "gangReach", unfollowed := true, recurses := true, named := ["macadam/gang.nowhere", "macadam/gang.works"], plainKeys := false, apart := false, laid := [("macadam/gang.nowhere", laid_macadam_gang_nowhere), ("macadam/gang.works", laid_macadam_gang_works)], narrowed := true }
def GangReachUptoSaid : Prop := gangReachUptoRow.holds Tryd.pinned (OpenSpec.upto gangReachSpec)

/-- 'macadamlaw04.GangTrue', WHERE WHAT IT READS IS OF BULK AT MOST 1048576: true; the input reads as it did. -/
def gangTrueUptoRow : OpenClaim := { program := "ytikfghnkbgdbgaadoor", sum := "37ae2fd07b3a0578b386b1f67bc45d7def0cd40a372d682fec12bb22ebdf5908", func := "macadam/macadamlaw04.GangTrue", spec := "gangTrue", unfollowed := true, recurses := true, named := ["macadam/gang.nowhere", "macadam/gang.works"], plainKeys := false, apart := false, laid := [("macadam/gang.nowhere", laid_macadam_gang_nowhere), ("macadam/gang.works", laid_macadam_gang_works)], narrowed := true }
def GangTrueUptoSaid : Prop := gangTrueUptoRow.holds Tryd.pinned (OpenSpec.upto gangTrueSpec)

/-- 'macadamlaw04.GangPlan', WHERE WHAT IT READS IS OF BULK AT MOST 1048576: true; the input reads as it did. -/
def gangPlanUptoRow : OpenClaim := { program := "ytikfghnkbgdbgaadoor", sum := "37ae2fd07b3a0578b386b1f67bc45d7def0cd40a372d682fec12bb22ebdf5908", func := "macadam/macadamlaw04.GangPlan", spec := "gangPlan", unfollowed := true, recurses := true, named := ["macadam/gang.nowhere", "macadam/gang.works"], plainKeys := false, apart := false, laid := [("macadam/gang.nowhere", laid_macadam_gang_nowhere), ("macadam/gang.works", laid_macadam_gang_works)], narrowed := true }
def GangPlanUptoSaid : Prop := gangPlanUptoRow.holds Tryd.pinned (OpenSpec.upto gangPlanSpec)

/-- 'macadamlaw04.GangNone', WHERE WHAT IT READS IS OF BULK AT MOST 1048576: true; the input reads as it did. -/
def gangNoneUptoRow : OpenClaim := { program := "ytikfghnkbgdbgaadoor", sum := "37ae2fd07b3a0578b386b1f67bc45d7def0cd40a372d682fec12bb22ebdf5908", func := "macadam/macadamlaw04.GangNone", spec := "gangNone", unfollowed := true, recurses := true, named := ["macadam/gang.nowhere", "macadam/gang.works"], plainKeys := false, apart := false, laid := [("macadam/gang.nowhere", laid_macadam_gang_nowhere), ("macadam/gang.works", laid_macadam_gang_works)], narrowed := true }
def GangNoneUptoSaid : Prop := gangNoneUptoRow.holds Tryd.pinned (OpenSpec.upto gangNoneSpec)

/-- 'macadamlaw04.GangMost', WHERE WHAT IT READS IS OF BULK AT MOST 1048576: true; the input reads as it did. -/
def gangMostUptoRow : OpenClaim := { program := "ytikfghnkbgdbgaadoor", sum := "37ae2fd07b3a0578b386b1f67bc45d7def0cd40a372d682fec12bb22ebdf5908", func := "macadam/macadamlaw04.GangMost", spec := "gangMost", unfollowed := true, recurses := true, named := ["macadam/gang.nowhere", "macadam/gang.works"], plainKeys := false, apart := false, laid := [("macadam/gang.nowhere", laid_macadam_gang_nowhere), ("macadam/gang.works", laid_macadam_gang_works)], narrowed := true }
def GangMostUptoSaid : Prop := gangMostUptoRow.holds Tryd.pinned (OpenSpec.upto gangMostSpec)

/-- 'macadamlaw04.GangFirst', WHERE WHAT IT READS IS OF BULK AT MOST 1048576: true; the input reads as it did. -/
def gangFirstUptoRow : OpenClaim := { program := "ytikfghnkbgdbgaadoor", sum := "37ae2fd07b3a0578b386b1f67bc45d7def0cd40a372d682fec12bb22ebdf5908", func := "macadam/macadamlaw04.GangFirst", spec := "gangFirst", unfollowed := true, recurses := true, named := ["macadam/gang.nowhere", "macadam/gang.works"], plainKeys := false, apart := false, laid := [("macadam/gang.nowhere", laid_macadam_gang_nowhere), ("macadam/gang.works", laid_macadam_gang_works)], narrowed := true }
def GangFirstUptoSaid : Prop := gangFirstUptoRow.holds Tryd.pinned (OpenSpec.upto gangFirstSpec)

/-- 'macadamlaw04.GangMore', WHERE WHAT IT READS IS OF BULK AT MOST 1048576: true; the input reads as it did. -/
def gangMoreUptoRow : OpenClaim := { program := "ytikfghnkbgdbgaadoor", sum := "37ae2fd07b3a0578b386b1f67bc45d7def0cd40a372d682fec12bb22ebdf5908", func := "macadam/macadamlaw04.GangMore", spec := "gangMore", unfollowed := true, recurses := true, named := ["macadam/gang.nowhere", "macadam/gang.works"], plainKeys := false, apart := false, laid := [("macadam/gang.nowhere", laid_macadam_gang_nowhere), ("macadam/gang.works", laid_macadam_gang_works)], narrowed := true }
def GangMoreUptoSaid : Prop := gangMoreUptoRow.holds Tryd.pinned (OpenSpec.upto gangMoreSpec)

/-- 'macadamlaw04.GangKnown', WHERE WHAT IT READS IS OF BULK AT MOST 1048576: true; the input reads as it did. -/
def gangKnownUptoRow : OpenClaim := { program := "ytikfghnkbgdbgaadoor", sum := "37ae2fd07b3a0578b386b1f67bc45d7def0cd40a372d682fec12bb22ebdf5908", func := "macadam/macadamlaw04.GangKnown", spec := "gangKnown", unfollowed := true, recurses := true, named := ["macadam/gang.nowhere", "macadam/gang.works"], plainKeys := false, apart := false, laid := [("macadam/gang.nowhere", laid_macadam_gang_nowhere), ("macadam/gang.works", laid_macadam_gang_works)], narrowed := true }
def GangKnownUptoSaid : Prop := gangKnownUptoRow.holds Tryd.pinned (OpenSpec.upto gangKnownSpec)

end Rows
end Go.Proofs.YtikfghnkbgdbgaaDoor
