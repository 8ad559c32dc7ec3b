/-
  DERIVED. GIVEN WITH THE SEED: THE CARDS: each row of YtigofgdmefobaaaDoorRows.lean that lists a variable, with what it lists TIED to the program's text (the seventh form; the later family's looks); each row that meets fmt, with fmt's text TOLD by the authors' own Lean function (tested against real Go, not proved from fmt's source: count such statements apart). THE CARD IS WHAT COUNTS. Prove the row's statement (the work); the ties are given (YtigofgdmefobaaaDoorTie.lean); close each card by the builder's one call (the guide's Derived/Test/ToyasCard.lean, 'card_holds'). Laid BY PROGRAM, IN A SANDBOX (cutbox-door.mjs). By AI agents, Wed Nov 11 2026. No macro, syntax, notation, axiom, sorry.
-/
import Derived.Test.YtigofgdmefobaaaDoorRows
import GoSem.ClaimSeven
namespace Go.Proofs.YtigofgdmefobaaaDoor
namespace Rows

/-- THE TIED CARD OF 'luciferlaw01.PeelColumns'. -/
def peelColumnsCard : Claim7 := { stood := { row := peelColumnsRow, standIns := [], harness := (true, "2d752c14ceaca453a54d51b26e4feb3affd015b5443766973f430c32ce01e836"), looks := false }, kinds := [], alts := [], laidByText := true, laidKinds := [.funcs], laidTests := true, laidLooks := .later }
def PeelColumnsCardSaid : Prop := Claim7.holds Tryd.pinned (.plain (OpenSpec.ofChange peelColumnsSpec)) peelColumnsCard

/-- THE TIED CARD OF 'luciferlaw01.PeelCuts'. -/
def peelCutsCard : Claim7 := { stood := { row := peelCutsRow, standIns := [], harness := (true, "2d752c14ceaca453a54d51b26e4feb3affd015b5443766973f430c32ce01e836"), looks := false }, kinds := [], alts := [], laidByText := true, laidKinds := [.funcs], laidTests := true, laidLooks := .later }
def PeelCutsCardSaid : Prop := Claim7.holds Tryd.pinned (.plain (OpenSpec.ofChange peelCutsSpec)) peelCutsCard

/-- THE TIED CARD OF 'luciferlaw01.PeelBests'. -/
def peelBestsCard : Claim7 := { stood := { row := peelBestsRow, standIns := [], harness := (true, "2d752c14ceaca453a54d51b26e4feb3affd015b5443766973f430c32ce01e836"), looks := false }, kinds := [], alts := [], laidByText := true, laidKinds := [.funcs], laidTests := true, laidLooks := .later }
def PeelBestsCardSaid : Prop := Claim7.holds Tryd.pinned (.plain (OpenSpec.ofChange peelBestsSpec)) peelBestsCard

/-- THE TIED CARD OF 'luciferlaw01.PeelTrue'. -/
def peelTrueCard : Claim7 := { stood := { row := peelTrueRow, standIns := [], harness := (true, "2d752c14ceaca453a54d51b26e4feb3affd015b5443766973f430c32ce01e836"), looks := false }, kinds := [], alts := [], laidByText := true, laidKinds := [.funcs], laidTests := true, laidLooks := .later }
def PeelTrueCardSaid : Prop := Claim7.holds Tryd.pinned (.plain (OpenSpec.ofChange peelTrueSpec)) peelTrueCard

/-- THE TIED CARD OF 'luciferlaw01.PeelMost'. -/
def peelMostCard : Claim7 := { stood := { row := peelMostRow, standIns := [], harness := (true, "2d752c14ceaca453a54d51b26e4feb3affd015b5443766973f430c32ce01e836"), looks := false }, kinds := [], alts := [], laidByText := true, laidKinds := [.funcs], laidTests := true, laidLooks := .later }
def PeelMostCardSaid : Prop := Claim7.holds Tryd.pinned (.plain (OpenSpec.ofChange peelMostSpec)) peelMostCard

/-- THE TIED CARD OF 'luciferlaw01.PeelKnotty'. -/
def peelKnottyCard : Claim7 := { stood := { row := peelKnottyRow, standIns := [], harness := (true, "2d752c14ceaca453a54d51b26e4feb3affd015b5443766973f430c32ce01e836"), looks := false }, kinds := [], alts := [], laidByText := true, laidKinds := [.funcs], laidTests := true, laidLooks := .later }
def PeelKnottyCardSaid : Prop := Claim7.holds Tryd.pinned (.plain (OpenSpec.ofChange peelKnottySpec)) peelKnottyCard

/-- THE TIED CARD OF 'luciferlaw01.PeelHope'. -/
def peelHopeCard : Claim7 := { stood := { row := peelHopeRow, standIns := [], harness := (true, "2d752c14ceaca453a54d51b26e4feb3affd015b5443766973f430c32ce01e836"), looks := false }, kinds := [], alts := [], laidByText := true, laidKinds := [.funcs], laidTests := true, laidLooks := .later }
def PeelHopeCardSaid : Prop := Claim7.holds Tryd.pinned (.plain (OpenSpec.ofChange peelHopeSpec)) peelHopeCard

/-- THE TIED CARD OF 'luciferlaw01.PeelLess'. -/
def peelLessCard : Claim7 := { stood := { row := peelLessRow, standIns := [], harness := (true, "2d752c14ceaca453a54d51b26e4feb3affd015b5443766973f430c32ce01e836"), looks := false }, kinds := [], alts := [], laidByText := true, laidKinds := [.funcs], laidTests := true, laidLooks := .later }
def PeelLessCardSaid : Prop := Claim7.holds Tryd.pinned (.plain (OpenSpec.ofChange peelLessSpec)) peelLessCard

/-- THE TIED CARD OF 'luciferlaw01.PeelClean'. -/
def peelCleanCard : Claim7 := { stood := { row := peelCleanRow, standIns := [], harness := (true, "2d752c14ceaca453a54d51b26e4feb3affd015b5443766973f430c32ce01e836"), looks := false }, kinds := [], alts := [], laidByText := true, laidKinds := [.funcs], laidTests := true, laidLooks := .later }
def PeelCleanCardSaid : Prop := Claim7.holds Tryd.pinned (.plain (OpenSpec.ofChange peelCleanSpec)) peelCleanCard

/-- THE TIED CARD OF 'luciferlaw01.PeelAngles'. -/
def peelAnglesCard : Claim7 := { stood := { row := peelAnglesRow, standIns := [], harness := (true, "2d752c14ceaca453a54d51b26e4feb3affd015b5443766973f430c32ce01e836"), looks := false }, kinds := [], alts := [], laidByText := true, laidKinds := [.funcs], laidTests := true, laidLooks := .later }
def PeelAnglesCardSaid : Prop := Claim7.holds Tryd.pinned (.plain (OpenSpec.ofChange peelAnglesSpec)) peelAnglesCard

/-- THE TIED CARD OF 'luciferlaw01.PeelAsk'. -/
def peelAskCard : Claim7 := { stood := { row := peelAskRow, standIns := [], harness := (true, "2d752c14ceaca453a54d51b26e4feb3affd015b5443766973f430c32ce01e836"), looks := false }, kinds := [], alts := [], laidByText := true, laidKinds := [.funcs], laidTests := true, laidLooks := .later }
def PeelAskCardSaid : Prop := Claim7.holds Tryd.pinned (.plain (OpenSpec.ofChange peelAskSpec)) peelAskCard

/-- THE TIED CARD OF 'luciferlaw01.PeelKnown'. -/
def peelKnownCard : Claim7 := { stood := { row := peelKnownRow, standIns := [], harness := (true, "2d752c14ceaca453a54d51b26e4feb3affd015b5443766973f430c32ce01e836"), looks := false }, kinds := [], alts := [], laidByText := true, laidKinds := [.funcs], laidTests := true, laidLooks := .later }
def PeelKnownCardSaid : Prop := Claim7.holds Tryd.pinned (.plain (OpenSpec.ofChange peelKnownSpec)) peelKnownCard

/-- THE SECOND FORM's CARD OF 'luciferlaw01.PeelColumns'. -/
def peelColumnsUptoCard : Claim7 := { stood := { row := peelColumnsUptoRow, standIns := [], harness := (true, "2d752c14ceaca453a54d51b26e4feb3affd015b5443766973f430c32ce01e836"), looks := false }, kinds := [], alts := [], laidByText := true, laidKinds := [.funcs], laidTests := true, laidLooks := .later }
def PeelColumnsUptoCardSaid : Prop := Claim7.holds Tryd.pinned (.plain (OpenSpec.upto peelColumnsSpec)) peelColumnsUptoCard

/-- THE SECOND FORM's CARD OF 'luciferlaw01.PeelCuts'. -/
def peelCutsUptoCard : Claim7 := { stood := { row := peelCutsUptoRow, standIns := [], harness := (true, "2d752c14ceaca453a54d51b26e4feb3affd015b5443766973f430c32ce01e836"), looks := false }, kinds := [], alts := [], laidByText := true, laidKinds := [.funcs], laidTests := true, laidLooks := .later }
def PeelCutsUptoCardSaid : Prop := Claim7.holds Tryd.pinned (.plain (OpenSpec.upto peelCutsSpec)) peelCutsUptoCard

/-- THE SECOND FORM's CARD OF 'luciferlaw01.PeelBests'. -/
def peelBestsUptoCard : Claim7 := { stood := { row := peelBestsUptoRow, standIns := [], harness := (true, "2d752c14ceaca453a54d51b26e4feb3affd015b5443766973f430c32ce01e836"), looks := false }, kinds := [], alts := [], laidByText := true, laidKinds := [.funcs], laidTests := true, laidLooks := .later }
def PeelBestsUptoCardSaid : Prop := Claim7.holds Tryd.pinned (.plain (OpenSpec.upto peelBestsSpec)) peelBestsUptoCard

/-- THE SECOND FORM's CARD OF 'luciferlaw01.PeelTrue'. -/
def peelTrueUptoCard : Claim7 := { stood := { row := peelTrueUptoRow, standIns := [], harness := (true, "2d752c14ceaca453a54d51b26e4feb3affd015b5443766973f430c32ce01e836"), looks := false }, kinds := [], alts := [], laidByText := true, laidKinds := [.funcs], laidTests := true, laidLooks := .later }
def PeelTrueUptoCardSaid : Prop := Claim7.holds Tryd.pinned (.plain (OpenSpec.upto peelTrueSpec)) peelTrueUptoCard

/-- THE SECOND FORM's CARD OF 'luciferlaw01.PeelMost'. -/
def peelMostUptoCard : Claim7 := { stood := { row := peelMostUptoRow, standIns := [], harness := (true, "2d752c14ceaca453a54d51b26e4feb3affd015b5443766973f430c32ce01e836"), looks := false }, kinds := [], alts := [], laidByText := true, laidKinds := [.funcs], laidTests := true, laidLooks := .later }
def PeelMostUptoCardSaid : Prop := Claim7.holds Tryd.pinned (.plain (OpenSpec.upto peelMostSpec)) peelMostUptoCard

/-- THE SECOND FORM's CARD OF 'luciferlaw01.PeelKnotty'. -/
def peelKnottyUptoCard : Claim7 := { stood := { row := peelKnottyUptoRow, standIns := [], harness := (true, "2d752c14ceaca453a54d51b26e4feb3affd015b5443766973f430c32ce01e836"), looks := false }, kinds := [], alts := [], laidByText := true, laidKinds := [.funcs], laidTests := true, laidLooks := .later }
def PeelKnottyUptoCardSaid : Prop := Claim7.holds Tryd.pinned (.plain (OpenSpec.upto peelKnottySpec)) peelKnottyUptoCard

/-- THE SECOND FORM's CARD OF 'luciferlaw01.PeelHope'. -/
def peelHopeUptoCard : Claim7 := { stood := { row := peelHopeUptoRow, standIns := [], harness := (true, "2d752c14ceaca453a54d51b26e4feb3affd015b5443766973f430c32ce01e836"), looks := false }, kinds := [], alts := [], laidByText := true, laidKinds := [.funcs], laidTests := true, laidLooks := .later }
def PeelHopeUptoCardSaid : Prop := Claim7.holds Tryd.pinned (.plain (OpenSpec.upto peelHopeSpec)) peelHopeUptoCard

/-- THE SECOND FORM's CARD OF 'luciferlaw01.PeelLess'. -/
def peelLessUptoCard : Claim7 := { stood := { row := peelLessUptoRow, standIns := [], harness := (true, "2d752c14ceaca453a54d51b26e4feb3affd015b5443766973f430c32ce01e836"), looks := false }, kinds := [], alts := [], laidByText := true, laidKinds := [.funcs], laidTests := true, laidLooks := .later }
def PeelLessUptoCardSaid : Prop := Claim7.holds Tryd.pinned (.plain (OpenSpec.upto peelLessSpec)) peelLessUptoCard

/-- THE SECOND FORM's CARD OF 'luciferlaw01.PeelClean'. -/
def peelCleanUptoCard : Claim7 := { stood := { row := peelCleanUptoRow, standIns := [], harness := (true, "2d752c14ceaca453a54d51b26e4feb3affd015b5443766973f430c32ce01e836"), looks := false }, kinds := [], alts := [], laidByText := true, laidKinds := [.funcs], laidTests := true, laidLooks := .later }
def PeelCleanUptoCardSaid : Prop := Claim7.holds Tryd.pinned (.plain (OpenSpec.upto peelCleanSpec)) peelCleanUptoCard

/-- THE SECOND FORM's CARD OF 'luciferlaw01.PeelAngles'. -/
def peelAnglesUptoCard : Claim7 := { stood := { row := peelAnglesUptoRow, standIns := [], harness := (true, "2d752c14ceaca453a54d51b26e4feb3affd015b5443766973f430c32ce01e836"), looks := false }, kinds := [], alts := [], laidByText := true, laidKinds := [.funcs], laidTests := true, laidLooks := .later }
def PeelAnglesUptoCardSaid : Prop := Claim7.holds Tryd.pinned (.plain (OpenSpec.upto peelAnglesSpec)) peelAnglesUptoCard

/-- THE SECOND FORM's CARD OF 'luciferlaw01.PeelAsk'. -/
def peelAskUptoCard : Claim7 := { stood := { row := peelAskUptoRow, standIns := [], harness := (true, "2d752c14ceaca453a54d51b26e4feb3affd015b5443766973f430c32ce01e836"), looks := false }, kinds := [], alts := [], laidByText := true, laidKinds := [.funcs], laidTests := true, laidLooks := .later }
def PeelAskUptoCardSaid : Prop := Claim7.holds Tryd.pinned (.plain (OpenSpec.upto peelAskSpec)) peelAskUptoCard

/-- THE SECOND FORM's CARD OF 'luciferlaw01.PeelKnown'. -/
def peelKnownUptoCard : Claim7 := { stood := { row := peelKnownUptoRow, standIns := [], harness := (true, "2d752c14ceaca453a54d51b26e4feb3affd015b5443766973f430c32ce01e836"), looks := false }, kinds := [], alts := [], laidByText := true, laidKinds := [.funcs], laidTests := true, laidLooks := .later }
def PeelKnownUptoCardSaid : Prop := Claim7.holds Tryd.pinned (.plain (OpenSpec.upto peelKnownSpec)) peelKnownUptoCard
end Rows
end Go.Proofs.YtigofgdmefobaaaDoor
