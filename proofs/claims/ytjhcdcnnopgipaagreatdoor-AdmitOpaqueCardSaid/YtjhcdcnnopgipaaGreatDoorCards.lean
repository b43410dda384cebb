/-
  DERIVED. GIVEN WITH THE SEED: THE CARDS: each row of YtjhcdcnnopgipaaGreatDoorRows.lean that lists a variable, with what it lists TIED to the program's text (the seventh form; the later family's looks); each row that meets fmt, with fmt's text TOLD by the authors' own Lean function (tested against real Go, not proved from fmt's source: count such statements apart). THE CARD IS WHAT COUNTS. Prove the row's statement (the work); the ties are given (YtjhcdcnnopgipaaGreatDoorTie.lean); close each card by the builder's one call (the guide's Derived/Test/ToyasCard.lean, 'card_holds'). Laid BY PROGRAM, IN A SANDBOX (cutbox-door.mjs). By AI agents, Wed Nov 11 2026. No macro, syntax, notation, axiom, sorry.
-/
import Derived.Test.YtjhcdcnnopgipaaGreatDoorRows
import GoSem.ClaimSeven
namespace Go.Proofs.YtjhcdcnnopgipaaGreatDoor
namespace Rows

/-- THE TIED CARD OF 'battenlaw24.AdmitOpaque'. -/
def admitOpaqueCard : Claim7 := { stood := { row := admitOpaqueRow, standIns := [], harness := (true, "2c1a3e06a60df62ea7abdf22b6ba3f7c9cfb8e163bead1ee04046691690b8b0f"), looks := true }, kinds := [], alts := [], laidByText := true, laidKinds := [.data, .data, .data], laidTests := true, laidLooks := .later }
def AdmitOpaqueCardSaid : Prop := Claim7.holds Tryz.pinned (.plain (OpenSpec.ofChange admitOpaqueSpec)) admitOpaqueCard

/-- THE TIED CARD OF 'battenlaw24.AdmitForms'. -/
def admitFormsCard : Claim7 := { stood := { row := admitFormsRow, standIns := [], harness := (true, "2c1a3e06a60df62ea7abdf22b6ba3f7c9cfb8e163bead1ee04046691690b8b0f"), looks := true }, kinds := [], alts := [], laidByText := true, laidKinds := [.data, .data, .data], laidTests := true, laidLooks := .later }
def AdmitFormsCardSaid : Prop := Claim7.holds Tryz.pinned (.plain (OpenSpec.ofChange admitFormsSpec)) admitFormsCard

/-- THE SECOND FORM's CARD OF 'battenlaw24.AdmitOpaque'. -/
def admitOpaqueUptoCard : Claim7 := { stood := { row := admitOpaqueUptoRow, standIns := [], harness := (true, "2c1a3e06a60df62ea7abdf22b6ba3f7c9cfb8e163bead1ee04046691690b8b0f"), looks := true }, kinds := [], alts := [], laidByText := true, laidKinds := [.data, .data, .data], laidTests := true, laidLooks := .later }
def AdmitOpaqueUptoCardSaid : Prop := Claim7.holds Tryz.pinned (.plain (OpenSpec.upto admitOpaqueSpec)) admitOpaqueUptoCard

/-- THE SECOND FORM's CARD OF 'battenlaw24.AdmitForms'. -/
def admitFormsUptoCard : Claim7 := { stood := { row := admitFormsUptoRow, standIns := [], harness := (true, "2c1a3e06a60df62ea7abdf22b6ba3f7c9cfb8e163bead1ee04046691690b8b0f"), looks := true }, kinds := [], alts := [], laidByText := true, laidKinds := [.data, .data, .data], laidTests := true, laidLooks := .later }
def AdmitFormsUptoCardSaid : Prop := Claim7.holds Tryz.pinned (.plain (OpenSpec.upto admitFormsSpec)) admitFormsUptoCard
end Rows
end Go.Proofs.YtjhcdcnnopgipaaGreatDoor
