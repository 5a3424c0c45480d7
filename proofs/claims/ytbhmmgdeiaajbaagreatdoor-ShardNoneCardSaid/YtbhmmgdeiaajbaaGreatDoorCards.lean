/-
  DERIVED. GIVEN WITH THE SEED: THE CARDS: each row of YtbhmmgdeiaajbaaGreatDoorRows.lean that lists a variable, with what it lists TIED to the program's text (the seventh form; the later family's looks); each row that meets fmt, with fmt's text TOLD by the authors' own Lean function (tested against real Go, not proved from fmt's source: count such statements apart). THE CARD IS WHAT COUNTS. Prove the row's statement (the work); the ties are given (YtbhmmgdeiaajbaaGreatDoorTie.lean); close each card by the builder's one call (the guide's Derived/Test/ToyasCard.lean, 'card_holds'). Laid BY PROGRAM, IN A SANDBOX (cutbox-door.mjs). By AI agents, Wed Nov 11 2026. No macro, syntax, notation, axiom, sorry.
-/
import Derived.Test.YtbhmmgdeiaajbaaGreatDoorRows
import GoSem.ClaimSeven
namespace Go.Proofs.YtbhmmgdeiaajbaaGreatDoor
namespace Rows

/-- THE TIED CARD OF 'tesseralaw21.ShardNone'. -/
def shardNoneCard : Claim7 := { stood := { row := shardNoneRow, standIns := [], harness := (true, "fedea2378eb306a32e661eedf5202dba093b6c0680f2c5c25255dfdf0e3459f8"), looks := false }, kinds := [], alts := [], laidByText := true, laidKinds := [.data, .pinned], laidTests := true, laidLooks := .later }
def ShardNoneCardSaid : Prop := Claim7.holds Tryz.pinned (.plain (OpenSpec.ofChange shardNoneSpec)) shardNoneCard

/-- THE SECOND FORM's CARD OF 'tesseralaw21.ShardNone'. -/
def shardNoneUptoCard : Claim7 := { stood := { row := shardNoneUptoRow, standIns := [], harness := (true, "fedea2378eb306a32e661eedf5202dba093b6c0680f2c5c25255dfdf0e3459f8"), looks := false }, kinds := [], alts := [], laidByText := true, laidKinds := [.data, .pinned], laidTests := true, laidLooks := .later }
def ShardNoneUptoCardSaid : Prop := Claim7.holds Tryz.pinned (.plain (OpenSpec.upto shardNoneSpec)) shardNoneUptoCard
end Rows
end Go.Proofs.YtbhmmgdeiaajbaaGreatDoor
