/-
  DERIVED. GIVEN WITH THE SEED: THE CARDS: each row of YtlbcnacfgickcaaGreatDoorRows.lean that lists a variable, with what it lists TIED to the program's text (the seventh form; the later family's looks); each row that meets fmt, with fmt's text TOLD by the authors' own Lean function (tested against real Go, not proved from fmt's source: count such statements apart). THE CARD IS WHAT COUNTS. Prove the row's statement (the work); the ties are given (YtlbcnacfgickcaaGreatDoorTie.lean); close each card by the builder's one call (the guide's Derived/Test/ToyasCard.lean, 'card_holds'). Laid BY PROGRAM, IN A SANDBOX (cutbox-door.mjs). By AI agents, Wed Nov 11 2026. No macro, syntax, notation, axiom, sorry.
-/
import Derived.Test.YtlbcnacfgickcaaGreatDoorRows
import GoSem.ClaimSeven
namespace Go.Proofs.YtlbcnacfgickcaaGreatDoor
namespace Rows

/-- THE TIED CARD OF 'colanderlaw19.CodeWider'. -/
def codeWiderCard : Claim7 := { stood := { row := codeWiderRow, standIns := [], harness := (true, "1ebeb31f93b529b11c793f3468c025a4590bbb33fa4dcc6550483ed9f63a03b9"), looks := true }, kinds := [], alts := [], laidByText := true, laidKinds := [.data, .data, .data, .data, .data, .sentinel, .sentinel, .listed, .data, .pinned, .pinned, .pinned], laidTests := true, laidLooks := .later }
def CodeWiderCardSaid : Prop := Claim7.holds Tryz.pinned (.plain (OpenSpec.ofChange codeWiderSpec)) codeWiderCard

/-- THE TIED CARD OF 'colanderlaw19.CodeChecks'. -/
def codeChecksCard : Claim7 := { stood := { row := codeChecksRow, standIns := [], harness := (true, "1ebeb31f93b529b11c793f3468c025a4590bbb33fa4dcc6550483ed9f63a03b9"), looks := true }, kinds := [], alts := [], laidByText := true, laidKinds := [.data, .data, .data, .data, .data, .sentinel, .sentinel, .listed, .data, .pinned, .pinned, .pinned], laidTests := true, laidLooks := .later }
def CodeChecksCardSaid : Prop := Claim7.holds Tryz.pinned (.plain (OpenSpec.ofChange codeChecksSpec)) codeChecksCard

/-- THE TIED CARD OF 'colanderlaw19.CodeTexts'. -/
def codeTextsCard : Claim7 := { stood := { row := codeTextsRow, standIns := [], harness := (true, "1ebeb31f93b529b11c793f3468c025a4590bbb33fa4dcc6550483ed9f63a03b9"), looks := true }, kinds := [], alts := [], laidByText := true, laidKinds := [.data, .data, .data, .data, .data, .sentinel, .sentinel, .listed, .data, .pinned, .pinned, .pinned], laidTests := true, laidLooks := .later }
def CodeTextsCardSaid : Prop := Claim7.holds Tryz.pinned (.plain (OpenSpec.ofChange codeTextsSpec)) codeTextsCard

/-- THE TIED CARD OF 'colanderlaw19.CodeHigh'. -/
def codeHighCard : Claim7 := { stood := { row := codeHighRow, standIns := [], harness := (true, "1ebeb31f93b529b11c793f3468c025a4590bbb33fa4dcc6550483ed9f63a03b9"), looks := true }, kinds := [], alts := [], laidByText := true, laidKinds := [.data, .data, .data, .data, .data, .sentinel, .sentinel, .listed, .data, .pinned, .pinned, .pinned], laidTests := true, laidLooks := .later }
def CodeHighCardSaid : Prop := Claim7.holds Tryz.pinned (.plain (OpenSpec.ofChange codeHighSpec)) codeHighCard

/-- THE TIED CARD OF 'colanderlaw19.CodeMore'. -/
def codeMoreCard : Claim7 := { stood := { row := codeMoreRow, standIns := [], harness := (true, "1ebeb31f93b529b11c793f3468c025a4590bbb33fa4dcc6550483ed9f63a03b9"), looks := true }, kinds := [], alts := [], laidByText := true, laidKinds := [.data, .data, .data, .data, .data, .sentinel, .sentinel, .listed, .data, .pinned, .pinned, .pinned], laidTests := true, laidLooks := .later }
def CodeMoreCardSaid : Prop := Claim7.holds Tryz.pinned (.plain (OpenSpec.ofChange codeMoreSpec)) codeMoreCard

/-- THE SECOND FORM's CARD OF 'colanderlaw19.CodeWider'. -/
def codeWiderUptoCard : Claim7 := { stood := { row := codeWiderUptoRow, standIns := [], harness := (true, "1ebeb31f93b529b11c793f3468c025a4590bbb33fa4dcc6550483ed9f63a03b9"), looks := true }, kinds := [], alts := [], laidByText := true, laidKinds := [.data, .data, .data, .data, .data, .sentinel, .sentinel, .listed, .data, .pinned, .pinned, .pinned], laidTests := true, laidLooks := .later }
def CodeWiderUptoCardSaid : Prop := Claim7.holds Tryz.pinned (.plain (OpenSpec.upto codeWiderSpec)) codeWiderUptoCard

/-- THE SECOND FORM's CARD OF 'colanderlaw19.CodeChecks'. -/
def codeChecksUptoCard : Claim7 := { stood := { row := codeChecksUptoRow, standIns := [], harness := (true, "1ebeb31f93b529b11c793f3468c025a4590bbb33fa4dcc6550483ed9f63a03b9"), looks := true }, kinds := [], alts := [], laidByText := true, laidKinds := [.data, .data, .data, .data, .data, .sentinel, .sentinel, .listed, .data, .pinned, .pinned, .pinned], laidTests := true, laidLooks := .later }
def CodeChecksUptoCardSaid : Prop := Claim7.holds Tryz.pinned (.plain (OpenSpec.upto codeChecksSpec)) codeChecksUptoCard

/-- THE SECOND FORM's CARD OF 'colanderlaw19.CodeTexts'. -/
def codeTextsUptoCard : Claim7 := { stood := { row := codeTextsUptoRow, standIns := [], harness := (true, "1ebeb31f93b529b11c793f3468c025a4590bbb33fa4dcc6550483ed9f63a03b9"), looks := true }, kinds := [], alts := [], laidByText := true, laidKinds := [.data, .data, .data, .data, .data, .sentinel, .sentinel, .listed, .data, .pinned, .pinned, .pinned], laidTests := true, laidLooks := .later }
def CodeTextsUptoCardSaid : Prop := Claim7.holds Tryz.pinned (.plain (OpenSpec.upto codeTextsSpec)) codeTextsUptoCard

/-- THE SECOND FORM's CARD OF 'colanderlaw19.CodeHigh'. -/
def codeHighUptoCard : Claim7 := { stood := { row := codeHighUptoRow, standIns := [], harness := (true, "1ebeb31f93b529b11c793f3468c025a4590bbb33fa4dcc6550483ed9f63a03b9"), looks := true }, kinds := [], alts := [], laidByText := true, laidKinds := [.data, .data, .data, .data, .data, .sentinel, .sentinel, .listed, .data, .pinned, .pinned, .pinned], laidTests := true, laidLooks := .later }
def CodeHighUptoCardSaid : Prop := Claim7.holds Tryz.pinned (.plain (OpenSpec.upto codeHighSpec)) codeHighUptoCard

/-- THE SECOND FORM's CARD OF 'colanderlaw19.CodeMore'. -/
def codeMoreUptoCard : Claim7 := { stood := { row := codeMoreUptoRow, standIns := [], harness := (true, "1ebeb31f93b529b11c793f3468c025a4590bbb33fa4dcc6550483ed9f63a03b9"), looks := true }, kinds := [], alts := [], laidByText := true, laidKinds := [.data, .data, .data, .data, .data, .sentinel, .sentinel, .listed, .data, .pinned, .pinned, .pinned], laidTests := true, laidLooks := .later }
def CodeMoreUptoCardSaid : Prop := Claim7.holds Tryz.pinned (.plain (OpenSpec.upto codeMoreSpec)) codeMoreUptoCard
end Rows
end Go.Proofs.YtlbcnacfgickcaaGreatDoor
