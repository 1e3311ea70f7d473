/-
  DERIVED. GIVEN WITH THE SEED: THE CARDS: each row of YtikfghnkbgdbgaaDoorRows.lean that lists a variable, with what it lists TIED to the program's text (the seventh form; the later family's looks); each row that meets fmt, with fmt's text TOLD by the authors' own Lean function (tested against real Go, not proved from fmt's source: count such statements apart). THE CARD IS WHAT COUNTS. Prove the row's statement (the work); the ties are given (YtikfghnkbgdbgaaDoorTie.lean); close each card by the builder's one call (the guide's Derived/Test/ToyasCard.lean, 'card_holds'). Laid BY PROGRAM, IN A SANDBOX (cutbox-door.mjs). By AI agents, Wed Nov 11 2026. No macro, syntax, notation, axiom, sorry.
-/
import Derived.Test.YtikfghnkbgdbgaaDoorRows
import GoSem.ClaimSeven
namespace Go.Proofs.YtikfghnkbgdbgaaDoor
namespace Rows

/-- THE TIED CARD OF 'macadamlaw04.GangMays'. -/
def gangMaysCard : Claim7 := { stood := { row := gangMaysRow, standIns := [], harness := (true, "88f50df5e688c53fcba80ffbc790cc1082a54a252ac4bc190e21b1a8f43ba8e5"), looks := false }, kinds := [], alts := [], laidByText := true, laidKinds := [.data, .funcs], laidTests := true, laidLooks := .later }
def GangMaysCardSaid : Prop := Claim7.holds Tryd.pinned (.plain (OpenSpec.ofChange gangMaysSpec)) gangMaysCard

/-- THE TIED CARD OF 'macadamlaw04.GangDones'. -/
def gangDonesCard : Claim7 := { stood := { row := gangDonesRow, standIns := [], harness := (true, "88f50df5e688c53fcba80ffbc790cc1082a54a252ac4bc190e21b1a8f43ba8e5"), looks := false }, kinds := [], alts := [], laidByText := true, laidKinds := [.data, .funcs], laidTests := true, laidLooks := .later }
def GangDonesCardSaid : Prop := Claim7.holds Tryd.pinned (.plain (OpenSpec.ofChange gangDonesSpec)) gangDonesCard

/-- THE TIED CARD OF 'macadamlaw04.GangPlans'. -/
def gangPlansCard : Claim7 := { stood := { row := gangPlansRow, standIns := [], harness := (true, "88f50df5e688c53fcba80ffbc790cc1082a54a252ac4bc190e21b1a8f43ba8e5"), looks := false }, kinds := [], alts := [], laidByText := true, laidKinds := [.data, .funcs], laidTests := true, laidLooks := .later }
def GangPlansCardSaid : Prop := Claim7.holds Tryd.pinned (.plain (OpenSpec.ofChange gangPlansSpec)) gangPlansCard

/-- THE TIED CARD OF 'macadamlaw04.GangRules'. -/
def gangRulesCard : Claim7 := { stood := { row := gangRulesRow, standIns := [], harness := (true, "88f50df5e688c53fcba80ffbc790cc1082a54a252ac4bc190e21b1a8f43ba8e5"), looks := false }, kinds := [], alts := [], laidByText := true, laidKinds := [.data, .funcs], laidTests := true, laidLooks := .later }
def GangRulesCardSaid : Prop := Claim7.holds Tryd.pinned (.plain (OpenSpec.ofChange gangRulesSpec)) gangRulesCard

/-- THE TIED CARD OF 'macadamlaw04.GangReach'. -/
def gangReachCard : Claim7 := { stood := { row := gangReachRow, standIns := [], harness := (true, "88f50df5e688c53fcba80ffbc790cc1082a54a252ac4bc190e21b1a8f43ba8e5"), looks := false }, kinds := [], alts := [], laidByText := true, laidKinds := [.data, .funcs], laidTests := true, laidLooks := .later }
def GangReachCardSaid : Prop := Claim7.holds Tryd.pinned (.plain (OpenSpec.ofChange gangReachSpec)) gangReachCard

/-- THE TIED CARD OF 'macadamlaw04.GangTrue'. -/
def gangTrueCard : Claim7 := { stood := { row := gangTrueRow, standIns := [], harness := (true, "88f50df5e688c53fcba80ffbc790cc1082a54a252ac4bc190e21b1a8f43ba8e5"), looks := false }, kinds := [], alts := [], laidByText := true, laidKinds := [.data, .funcs], laidTests := true, laidLooks := .later }
def GangTrueCardSaid : Prop := Claim7.holds Tryd.pinned (.plain (OpenSpec.ofChange gangTrueSpec)) gangTrueCard

/-- THE TIED CARD OF 'macadamlaw04.GangPlan'. -/
def gangPlanCard : Claim7 := { stood := { row := gangPlanRow, standIns := [], harness := (true, "88f50df5e688c53fcba80ffbc790cc1082a54a252ac4bc190e21b1a8f43ba8e5"), looks := false }, kinds := [], alts := [], laidByText := true, laidKinds := [.data, .funcs], laidTests := true, laidLooks := .later }
def GangPlanCardSaid : Prop := Claim7.holds Tryd.pinned (.plain (OpenSpec.ofChange gangPlanSpec)) gangPlanCard

/-- THE TIED CARD OF 'macadamlaw04.GangNone'. -/
def gangNoneCard : Claim7 := { stood := { row := gangNoneRow, standIns := [], harness := (true, "88f50df5e688c53fcba80ffbc790cc1082a54a252ac4bc190e21b1a8f43ba8e5"), looks := false }, kinds := [], alts := [], laidByText := true, laidKinds := [.data, .funcs], laidTests := true, laidLooks := .later }
def GangNoneCardSaid : Prop := Claim7.holds Tryd.pinned (.plain (OpenSpec.ofChange gangNoneSpec)) gangNoneCard

/-- THE TIED CARD OF 'macadamlaw04.GangMost'. -/
def gangMostCard : Claim7 := { stood := { row := gangMostRow, standIns := [], harness := (true, "88f50df5e688c53fcba80ffbc790cc1082a54a252ac4bc190e21b1a8f43ba8e5"), looks := false }, kinds := [], alts := [], laidByText := true, laidKinds := [.data, .funcs], laidTests := true, laidLooks := .later }
def GangMostCardSaid : Prop := Claim7.holds Tryd.pinned (.plain (OpenSpec.ofChange gangMostSpec)) gangMostCard

/-- THE TIED CARD OF 'macadamlaw04.GangFirst'. -/
def gangFirstCard : Claim7 := { stood := { row := gangFirstRow, standIns := [], harness := (true, "88f50df5e688c53fcba80ffbc790cc1082a54a252ac4bc190e21b1a8f43ba8e5"), looks := false }, kinds := [], alts := [], laidByText := true, laidKinds := [.data, .funcs], laidTests := true, laidLooks := .later }
def GangFirstCardSaid : Prop := Claim7.holds Tryd.pinned (.plain (OpenSpec.ofChange gangFirstSpec)) gangFirstCard

/-- THE TIED CARD OF 'macadamlaw04.GangMore'. -/
def gangMoreCard : Claim7 := { stood := { row := gangMoreRow, standIns := [], harness := (true, "88f50df5e688c53fcba80ffbc790cc1082a54a252ac4bc190e21b1a8f43ba8e5"), looks := false }, kinds := [], alts := [], laidByText := true, laidKinds := [.data, .funcs], laidTests := true, laidLooks := .later }
def GangMoreCardSaid : Prop := Claim7.holds Tryd.pinned (.plain (OpenSpec.ofChange gangMoreSpec)) gangMoreCard

/-- THE TIED CARD OF 'macadamlaw04.GangKnown'. -/
def gangKnownCard : Claim7 := { stood := { row := gangKnownRow, standIns := [], harness := (true, "88f50df5e688c53fcba80ffbc790cc1082a54a252ac4bc190e21b1a8f43ba8e5"), looks := false }, kinds := [], alts := [], laidByText := true, laidKinds := [.data, .funcs], laidTests := true, laidLooks := .later }
def GangKnownCardSaid : Prop := Claim7.holds Tryd.pinned (.plain (OpenSpec.ofChange gangKnownSpec)) gangKnownCard

/-- THE SECOND FORM's CARD OF 'macadamlaw04.GangMays'. -/
def gangMaysUptoCard : Claim7 := { stood := { row := gangMaysUptoRow, standIns := [], harness := (true, "88f50df5e688c53fcba80ffbc790cc1082a54a252ac4bc190e21b1a8f43ba8e5"), looks := false }, kinds := [], alts := [], laidByText := true, laidKinds := [.data, .funcs], laidTests := true, laidLooks := .later }
def GangMaysUptoCardSaid : Prop := Claim7.holds Tryd.pinned (.plain (OpenSpec.upto gangMaysSpec)) gangMaysUptoCard

/-- THE SECOND FORM's CARD OF 'macadamlaw04.GangDones'. -/
def gangDonesUptoCard : Claim7 := { stood := { row := gangDonesUptoRow, standIns := [], harness := (true, "88f50df5e688c53fcba80ffbc790cc1082a54a252ac4bc190e21b1a8f43ba8e5"), looks := false }, kinds := [], alts := [], laidByText := true, laidKinds := [.data, .funcs], laidTests := true, laidLooks := .later }
def GangDonesUptoCardSaid : Prop := Claim7.holds Tryd.pinned (.plain (OpenSpec.upto gangDonesSpec)) gangDonesUptoCard

/-- THE SECOND FORM's CARD OF 'macadamlaw04.GangPlans'. -/
def gangPlansUptoCard : Claim7 := { stood := { row := gangPlansUptoRow, standIns := [], harness := (true, "88f50df5e688c53fcba80ffbc790cc1082a54a252ac4bc190e21b1a8f43ba8e5"), looks := false }, kinds := [], alts := [], laidByText := true, laidKinds := [.data, .funcs], laidTests := true, laidLooks := .later }
def GangPlansUptoCardSaid : Prop := Claim7.holds Tryd.pinned (.plain (OpenSpec.upto gangPlansSpec)) gangPlansUptoCard

/-- THE SECOND FORM's CARD OF 'macadamlaw04.GangRules'. -/
def gangRulesUptoCard : Claim7 := { stood := { row := gangRulesUptoRow, standIns := [], harness := (true, "88f50df5e688c53fcba80ffbc790cc1082a54a252ac4bc190e21b1a8f43ba8e5"), looks := false }, kinds := [], alts := [], laidByText := true, laidKinds := [.data, .funcs], laidTests := true, laidLooks := .later }
def GangRulesUptoCardSaid : Prop := Claim7.holds Tryd.pinned (.plain (OpenSpec.upto gangRulesSpec)) gangRulesUptoCard

/-- THE SECOND FORM's CARD OF 'macadamlaw04.GangReach'. -/
def gangReachUptoCard : Claim7 := { stood := { row := gangReachUptoRow, standIns := [], harness := (true, "88f50df5e688c53fcba80ffbc790cc1082a54a252ac4bc190e21b1a8f43ba8e5"), looks := false }, kinds := [], alts := [], laidByText := true, laidKinds := [.data, .funcs], laidTests := true, laidLooks := .later }
def GangReachUptoCardSaid : Prop := Claim7.holds Tryd.pinned (.plain (OpenSpec.upto gangReachSpec)) gangReachUptoCard

/-- THE SECOND FORM's CARD OF 'macadamlaw04.GangTrue'. -/
def gangTrueUptoCard : Claim7 := { stood := { row := gangTrueUptoRow, standIns := [], harness := (true, "88f50df5e688c53fcba80ffbc790cc1082a54a252ac4bc190e21b1a8f43ba8e5"), looks := false }, kinds := [], alts := [], laidByText := true, laidKinds := [.data, .funcs], laidTests := true, laidLooks := .later }
def GangTrueUptoCardSaid : Prop := Claim7.holds Tryd.pinned (.plain (OpenSpec.upto gangTrueSpec)) gangTrueUptoCard

/-- THE SECOND FORM's CARD OF 'macadamlaw04.GangPlan'. -/
def gangPlanUptoCard : Claim7 := { stood := { row := gangPlanUptoRow, standIns := [], harness := (true, "88f50df5e688c53fcba80ffbc790cc1082a54a252ac4bc190e21b1a8f43ba8e5"), looks := false }, kinds := [], alts := [], laidByText := true, laidKinds := [.data, .funcs], laidTests := true, laidLooks := .later }
def GangPlanUptoCardSaid : Prop := Claim7.holds Tryd.pinned (.plain (OpenSpec.upto gangPlanSpec)) gangPlanUptoCard

/-- THE SECOND FORM's CARD OF 'macadamlaw04.GangNone'. -/
def gangNoneUptoCard : Claim7 := { stood := { row := gangNoneUptoRow, standIns := [], harness := (true, "88f50df5e688c53fcba80ffbc790cc1082a54a252ac4bc190e21b1a8f43ba8e5"), looks := false }, kinds := [], alts := [], laidByText := true, laidKinds := [.data, .funcs], laidTests := true, laidLooks := .later }
def GangNoneUptoCardSaid : Prop := Claim7.holds Tryd.pinned (.plain (OpenSpec.upto gangNoneSpec)) gangNoneUptoCard

/-- THE SECOND FORM's CARD OF 'macadamlaw04.GangMost'. -/
def gangMostUptoCard : Claim7 := { stood := { row := gangMostUptoRow, standIns := [], harness := (true, "88f50df5e688c53fcba80ffbc790cc1082a54a252ac4bc190e21b1a8f43ba8e5"), looks := false }, kinds := [], alts := [], laidByText := true, laidKinds := [.data, .funcs], laidTests := true, laidLooks := .later }
def GangMostUptoCardSaid : Prop := Claim7.holds Tryd.pinned (.plain (OpenSpec.upto gangMostSpec)) gangMostUptoCard

/-- THE SECOND FORM's CARD OF 'macadamlaw04.GangFirst'. -/
def gangFirstUptoCard : Claim7 := { stood := { row := gangFirstUptoRow, standIns := [], harness := (true, "88f50df5e688c53fcba80ffbc790cc1082a54a252ac4bc190e21b1a8f43ba8e5"), looks := false }, kinds := [], alts := [], laidByText := true, laidKinds := [.data, .funcs], laidTests := true, laidLooks := .later }
def GangFirstUptoCardSaid : Prop := Claim7.holds Tryd.pinned (.plain (OpenSpec.upto gangFirstSpec)) gangFirstUptoCard

/-- THE SECOND FORM's CARD OF 'macadamlaw04.GangMore'. -/
def gangMoreUptoCard : Claim7 := { stood := { row := gangMoreUptoRow, standIns := [], harness := (true, "88f50df5e688c53fcba80ffbc790cc1082a54a252ac4bc190e21b1a8f43ba8e5"), looks := false }, kinds := [], alts := [], laidByText := true, laidKinds := [.data, .funcs], laidTests := true, laidLooks := .later }
def GangMoreUptoCardSaid : Prop := Claim7.holds Tryd.pinned (.plain (OpenSpec.upto gangMoreSpec)) gangMoreUptoCard

/-- THE SECOND FORM's CARD OF 'macadamlaw04.GangKnown'. -/
def gangKnownUptoCard : Claim7 := { stood := { row := gangKnownUptoRow, standIns := [], harness := (true, "88f50df5e688c53fcba80ffbc790cc1082a54a252ac4bc190e21b1a8f43ba8e5"), looks := false }, kinds := [], alts := [], laidByText := true, laidKinds := [.data, .funcs], laidTests := true, laidLooks := .later }
def GangKnownUptoCardSaid : Prop := Claim7.holds Tryd.pinned (.plain (OpenSpec.upto gangKnownSpec)) gangKnownUptoCard
end Rows
end Go.Proofs.YtikfghnkbgdbgaaDoor
