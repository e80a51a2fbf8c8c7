/-
  DERIVED. GIVEN WITH THE SEED: THE CARDS: each row of YtbfgpjjempagpaaDoorRows.lean that lists a variable, with what it lists TIED to the program's text (the seventh form; the later family's looks); each row that meets fmt, with fmt's text TOLD by the authors' own Lean function (tested against real Go, not proved from fmt's source: count such statements apart). THE CARD IS WHAT COUNTS. Prove the row's statement (the work); the ties are given (YtbfgpjjempagpaaDoorTie.lean); close each card by the builder's one call (the guide's Derived/Test/ToyasCard.lean, 'card_holds'). Laid BY PROGRAM, IN A SANDBOX (cutbox-door.mjs). By AI agents, Wed Nov 11 2026. No macro, syntax, notation, axiom, sorry.
-/
import Derived.Test.YtbfgpjjempagpaaDoorRows
import GoSem.ClaimSeven
namespace Go.Proofs.YtbfgpjjempagpaaDoor
namespace Rows

/-- THE TIED CARD OF 'laws.FnExactNetAddrText'. -/
def fnExactNetAddrTextCard : Claim7 := { stood := { row := fnExactNetAddrTextRow, standIns := [], harness := (true, "aeff1d9c48cf48d56d2b492cb35c5ed332e124b6463ae7990de38f99ed469930"), looks := true }, kinds := [], alts := [], laidByText := true, laidKinds := [.data, .data, .data], laidTests := true, laidLooks := .later }
def FnExactNetAddrTextCardSaid : Prop := Claim7.holds Tryd.pinned (.plain (OpenSpec.ofChange fnExactNetAddrTextSpec)) fnExactNetAddrTextCard

/-- THE TIED CARD OF 'laws.FnExactNetText'. -/
def fnExactNetTextCard : Claim7 := { stood := { row := fnExactNetTextRow, standIns := [], harness := (true, "aeff1d9c48cf48d56d2b492cb35c5ed332e124b6463ae7990de38f99ed469930"), looks := true }, kinds := [], alts := [], laidByText := true, laidKinds := [.data, .data, .data], laidTests := true, laidLooks := .later }
def FnExactNetTextCardSaid : Prop := Claim7.holds Tryd.pinned (.plain (OpenSpec.ofChange fnExactNetTextSpec)) fnExactNetTextCard

/-- THE TIED CARD OF 'laws.FnExactNetAddr'. -/
def fnExactNetAddrCard : Claim7 := { stood := { row := fnExactNetAddrRow, standIns := [], harness := (true, "aeff1d9c48cf48d56d2b492cb35c5ed332e124b6463ae7990de38f99ed469930"), looks := true }, kinds := [], alts := [], laidByText := true, laidKinds := [.data, .data, .data, .sentinel, .sentinel], laidTests := true, laidLooks := .later }
def FnExactNetAddrCardSaid : Prop := Claim7.holds Tryd.pinned (.plain (OpenSpec.ofChange fnExactNetAddrSpec)) fnExactNetAddrCard

/-- THE TIED CARD OF 'laws.FnExactNetParse'. -/
def fnExactNetParseCard : Claim7 := { stood := { row := fnExactNetParseRow, standIns := [], harness := (true, "aeff1d9c48cf48d56d2b492cb35c5ed332e124b6463ae7990de38f99ed469930"), looks := true }, kinds := [], alts := [], laidByText := true, laidKinds := [.data, .data, .data, .sentinel, .sentinel], laidTests := true, laidLooks := .later }
def FnExactNetParseCardSaid : Prop := Claim7.holds Tryd.pinned (.plain (OpenSpec.ofChange fnExactNetParseSpec)) fnExactNetParseCard

/-- THE TIED CARD OF 'laws.FnNetText'. -/
def fnNetTextCard : Claim7 := { stood := { row := fnNetTextRow, standIns := [], harness := (true, "aeff1d9c48cf48d56d2b492cb35c5ed332e124b6463ae7990de38f99ed469930"), looks := true }, kinds := [], alts := [], laidByText := true, laidKinds := [.data, .data, .data, .sentinel, .sentinel], laidTests := true, laidLooks := .later }
def FnNetTextCardSaid : Prop := Claim7.holds Tryd.pinned (.plain (OpenSpec.ofChange fnNetTextSpec)) fnNetTextCard

/-- THE SECOND FORM's CARD OF 'laws.FnExactNetAddrText'. -/
def fnExactNetAddrTextUptoCard : Claim7 := { stood := { row := fnExactNetAddrTextUptoRow, standIns := [], harness := (true, "aeff1d9c48cf48d56d2b492cb35c5ed332e124b6463ae7990de38f99ed469930"), looks := true }, kinds := [], alts := [], laidByText := true, laidKinds := [.data, .data, .data], laidTests := true, laidLooks := .later }
def FnExactNetAddrTextUptoCardSaid : Prop := Claim7.holds Tryd.pinned (.plain (OpenSpec.upto fnExactNetAddrTextSpec)) fnExactNetAddrTextUptoCard

/-- THE SECOND FORM's CARD OF 'laws.FnExactNetText'. -/
def fnExactNetTextUptoCard : Claim7 := { stood := { row := fnExactNetTextUptoRow, standIns := [], harness := (true, "aeff1d9c48cf48d56d2b492cb35c5ed332e124b6463ae7990de38f99ed469930"), looks := true }, kinds := [], alts := [], laidByText := true, laidKinds := [.data, .data, .data], laidTests := true, laidLooks := .later }
def FnExactNetTextUptoCardSaid : Prop := Claim7.holds Tryd.pinned (.plain (OpenSpec.upto fnExactNetTextSpec)) fnExactNetTextUptoCard

/-- THE SECOND FORM's CARD OF 'laws.FnExactNetAddr'. -/
def fnExactNetAddrUptoCard : Claim7 := { stood := { row := fnExactNetAddrUptoRow, standIns := [], harness := (true, "aeff1d9c48cf48d56d2b492cb35c5ed332e124b6463ae7990de38f99ed469930"), looks := true }, kinds := [], alts := [], laidByText := true, laidKinds := [.data, .data, .data, .sentinel, .sentinel], laidTests := true, laidLooks := .later }
def FnExactNetAddrUptoCardSaid : Prop := Claim7.holds Tryd.pinned (.plain (OpenSpec.upto fnExactNetAddrSpec)) fnExactNetAddrUptoCard

/-- THE SECOND FORM's CARD OF 'laws.FnExactNetParse'. -/
def fnExactNetParseUptoCard : Claim7 := { stood := { row := fnExactNetParseUptoRow, standIns := [], harness := (true, "aeff1d9c48cf48d56d2b492cb35c5ed332e124b6463ae7990de38f99ed469930"), looks := true }, kinds := [], alts := [], laidByText := true, laidKinds := [.data, .data, .data, .sentinel, .sentinel], laidTests := true, laidLooks := .later }
def FnExactNetParseUptoCardSaid : Prop := Claim7.holds Tryd.pinned (.plain (OpenSpec.upto fnExactNetParseSpec)) fnExactNetParseUptoCard

/-- THE SECOND FORM's CARD OF 'laws.FnNetText'. -/
def fnNetTextUptoCard : Claim7 := { stood := { row := fnNetTextUptoRow, standIns := [], harness := (true, "aeff1d9c48cf48d56d2b492cb35c5ed332e124b6463ae7990de38f99ed469930"), looks := true }, kinds := [], alts := [], laidByText := true, laidKinds := [.data, .data, .data, .sentinel, .sentinel], laidTests := true, laidLooks := .later }
def FnNetTextUptoCardSaid : Prop := Claim7.holds Tryd.pinned (.plain (OpenSpec.upto fnNetTextSpec)) fnNetTextUptoCard
end Rows
end Go.Proofs.YtbfgpjjempagpaaDoor
