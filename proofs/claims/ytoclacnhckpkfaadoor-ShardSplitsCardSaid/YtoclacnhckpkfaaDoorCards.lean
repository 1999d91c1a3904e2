/-
  DERIVED. GIVEN WITH THE SEED: THE CARDS: each row of YtoclacnhckpkfaaDoorRows.lean that lists a variable, with what it lists TIED to the program's text (the seventh form; the later family's looks); each row that meets fmt, with fmt's text TOLD by the authors' own Lean function (tested against real Go, not proved from fmt's source: count such statements apart). THE CARD IS WHAT COUNTS. Prove the row's statement (the work); the ties are given (YtoclacnhckpkfaaDoorTie.lean); close each card by the builder's one call (the guide's Derived/Test/ToyasCard.lean, 'card_holds'). Laid BY PROGRAM, IN A SANDBOX (cutbox-door.mjs). By AI agents, Wed Nov 11 2026. No macro, syntax, notation, axiom, sorry.
-/
import Derived.Test.YtoclacnhckpkfaaDoorRows
import GoSem.ClaimSeven
namespace Go.Proofs.YtoclacnhckpkfaaDoor
namespace Rows

/-- THE TIED CARD OF 'sextonlaw19.ShardSplits'. -/
def shardSplitsCard : Claim7 := { stood := { row := shardSplitsRow, standIns := [], harness := (true, "a9bdaa312012143db587ec12c1790c958a126f07dcd6ca2761e96c19b18d6f6e"), looks := false }, kinds := [], alts := [], laidByText := true, laidKinds := [.data], laidTests := true, laidLooks := .later }
def ShardSplitsCardSaid : Prop := Claim7.holds Tryd.pinned (.plain (OpenSpec.ofChange shardSplitsSpec)) shardSplitsCard

/-- THE TIED CARD OF 'sextonlaw19.ShardWhole'. -/
def shardWholeCard : Claim7 := { stood := { row := shardWholeRow, standIns := [], harness := (true, "a9bdaa312012143db587ec12c1790c958a126f07dcd6ca2761e96c19b18d6f6e"), looks := false }, kinds := [], alts := [], laidByText := true, laidKinds := [.data], laidTests := true, laidLooks := .later }
def ShardWholeCardSaid : Prop := Claim7.holds Tryd.pinned (.plain (OpenSpec.ofChange shardWholeSpec)) shardWholeCard

/-- THE TIED CARD OF 'sextonlaw19.ShardTwo'. -/
def shardTwoCard : Claim7 := { stood := { row := shardTwoRow, standIns := [], harness := (true, "a9bdaa312012143db587ec12c1790c958a126f07dcd6ca2761e96c19b18d6f6e"), looks := false }, kinds := [], alts := [], laidByText := true, laidKinds := [.data], laidTests := true, laidLooks := .later }
def ShardTwoCardSaid : Prop := Claim7.holds Tryd.pinned (.plain (OpenSpec.ofChange shardTwoSpec)) shardTwoCard

/-- THE TIED CARD OF 'sextonlaw19.ShardSteps'. -/
def shardStepsCard : Claim7 := { stood := { row := shardStepsRow, standIns := [], harness := (true, "a9bdaa312012143db587ec12c1790c958a126f07dcd6ca2761e96c19b18d6f6e"), looks := false }, kinds := [], alts := [], laidByText := true, laidKinds := [.data], laidTests := true, laidLooks := .later }
def ShardStepsCardSaid : Prop := Claim7.holds Tryd.pinned (.plain (OpenSpec.ofChange shardStepsSpec)) shardStepsCard

/-- THE TIED CARD OF 'sextonlaw19.ShardNil'. -/
def shardNilCard : Claim7 := { stood := { row := shardNilRow, standIns := [], harness := (true, "a9bdaa312012143db587ec12c1790c958a126f07dcd6ca2761e96c19b18d6f6e"), looks := false }, kinds := [], alts := [], laidByText := true, laidKinds := [.data], laidTests := true, laidLooks := .later }
def ShardNilCardSaid : Prop := Claim7.holds Tryd.pinned (.plain (OpenSpec.ofChange shardNilSpec)) shardNilCard

/-- THE SECOND FORM's CARD OF 'sextonlaw19.ShardSplits'. -/
def shardSplitsUptoCard : Claim7 := { stood := { row := shardSplitsUptoRow, standIns := [], harness := (true, "a9bdaa312012143db587ec12c1790c958a126f07dcd6ca2761e96c19b18d6f6e"), looks := false }, kinds := [], alts := [], laidByText := true, laidKinds := [.data], laidTests := true, laidLooks := .later }
def ShardSplitsUptoCardSaid : Prop := Claim7.holds Tryd.pinned (.plain (OpenSpec.upto shardSplitsSpec)) shardSplitsUptoCard

/-- THE SECOND FORM's CARD OF 'sextonlaw19.ShardWhole'. -/
def shardWholeUptoCard : Claim7 := { stood := { row := shardWholeUptoRow, standIns := [], harness := (true, "a9bdaa312012143db587ec12c1790c958a126f07dcd6ca2761e96c19b18d6f6e"), looks := false }, kinds := [], alts := [], laidByText := true, laidKinds := [.data], laidTests := true, laidLooks := .later }
def ShardWholeUptoCardSaid : Prop := Claim7.holds Tryd.pinned (.plain (OpenSpec.upto shardWholeSpec)) shardWholeUptoCard

/-- THE SECOND FORM's CARD OF 'sextonlaw19.ShardTwo'. -/
def shardTwoUptoCard : Claim7 := { stood := { row := shardTwoUptoRow, standIns := [], harness := (true, "a9bdaa312012143db587ec12c1790c958a126f07dcd6ca2761e96c19b18d6f6e"), looks := false }, kinds := [], alts := [], laidByText := true, laidKinds := [.data], laidTests := true, laidLooks := .later }
def ShardTwoUptoCardSaid : Prop := Claim7.holds Tryd.pinned (.plain (OpenSpec.upto shardTwoSpec)) shardTwoUptoCard

/-- THE SECOND FORM's CARD OF 'sextonlaw19.ShardSteps'. -/
def shardStepsUptoCard : Claim7 := { stood := { row := shardStepsUptoRow, standIns := [], harness := (true, "a9bdaa312012143db587ec12c1790c958a126f07dcd6ca2761e96c19b18d6f6e"), looks := false }, kinds := [], alts := [], laidByText := true, laidKinds := [.data], laidTests := true, laidLooks := .later }
def ShardStepsUptoCardSaid : Prop := Claim7.holds Tryd.pinned (.plain (OpenSpec.upto shardStepsSpec)) shardStepsUptoCard

/-- THE SECOND FORM's CARD OF 'sextonlaw19.ShardNil'. -/
def shardNilUptoCard : Claim7 := { stood := { row := shardNilUptoRow, standIns := [], harness := (true, "a9bdaa312012143db587ec12c1790c958a126f07dcd6ca2761e96c19b18d6f6e"), looks := false }, kinds := [], alts := [], laidByText := true, laidKinds := [.data], laidTests := true, laidLooks := .later }
def ShardNilUptoCardSaid : Prop := Claim7.holds Tryd.pinned (.plain (OpenSpec.upto shardNilSpec)) shardNilUptoCard
end Rows
end Go.Proofs.YtoclacnhckpkfaaDoor
