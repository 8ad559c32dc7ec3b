/-
  NARROWER THAN 'FOR EVERY INPUT', by the rows' own cells (each row's printed sentence says how): PeelColumns: laid · PeelCuts: laid · PeelBests: laid · PeelTrue: laid · PeelMost: laid · PeelKnotty: laid · PeelHope: laid · PeelLess: laid · PeelClean: laid · PeelAngles: laid · PeelAsk: laid · PeelKnown: laid.
  DERIVED. THE GIVEN ROWS OF THIS SEAT. 12 by the template 'for every input the law returns true; each argument reads behind the call as it read before'; 0 by the template 'total and deterministic' (their statements: YtigofgdmefobaaaDoorTotals.lean).
  GIVEN WITH THE SEED: the statements are not yours to turn. If you find one false, say at which input.
  Laid BY PROGRAM, IN A SANDBOX (cutbox-rows.mjs): the forced cells as the released guide's own fill.sh prints them over the translation 27847ea6b91d1131… (all of the seat's roots in one cut). By AI agents, Wed Nov 11 2026. No macro, syntax, notation, axiom, sorry.
-/
import Derived.Test.YtigofgdmefobaaaDoorChecked
import GoSem.Claim
import GoSem.ClaimJoined
import GoSem.ClaimMapViews
import Derived.JoinedTies
import Derived.KernelRfl
namespace Go.Proofs.YtigofgdmefobaaaDoor
/- THE CELL 'sum', in the pinned program and in every row, IS THE sha256 OF THE DUMP (.gsa) THAT YtigofgdmefobaaaDoorProg.lean LOADS. Nothing in Lean hashes anything: it is a label: what it is worth is what the hold of that sum in a sandbox is worth. -/
noncomputable def Tryd.pinned : Pinned := { name := "ytigofgdmefobaaadoor", sum := "27847ea6b91d1131d4043ab91c881d235b0c591a5320b4029512d2bea5d94ece", checked := Tryd.checked }
namespace Rows
def none {H : Type} : Left H := { results := [], args := [] }

/- WHAT THE LISTED PACKAGE-LEVEL VARIABLES READ AS WHEN THE CALL BEGINS. Each datum BY PROGRAM (the guide's laid-datum.mjs) off the statement by which the dump's own 'gosem.cut.vars' lays the variable. In a bare row this is a premise. The card (YtigofgdmefobaaaDoorCards.lean) ties it to the program's text. -/
def laid_lucifer_peel_ends {H : Type} : DataW H := .iface "func table" (.agg [.iface "func" (.lit (.string [40, 108, 117, 99, 105, 102, 101, 114, 47, 112, 101, 101, 108, 46, 108, 111, 103, 41, 46, 102, 105, 114, 115, 116])), .iface "func" (.lit (.string [40, 108, 117, 99, 105, 102, 101, 114, 47, 112, 101, 101, 108, 46, 108, 111, 103, 41, 46, 108, 97, 115, 116]))])

/-- 'luciferlaw01.PeelColumns': WHATEVER THE INPUT: true; the input reads as it did. -/
def peelColumnsSpec : ChangeSpec := { name := "peelColumns", fn := fun _ => fun
  | [d1, d2] => { results := [.lit (.bool true)], args := [d1, d2] }
  | _ => none }
def peelColumnsRow : OpenClaim := { program := "ytigofgdmefobaaadoor", sum := "27847ea6b91d1131d4043ab91c881d235b0c591a5320b4029512d2bea5d94ece", func := "lucifer/luciferlaw01.PeelColumns", spec := "peelColumns", unfollowed := true, recurses := true, named := ["lucifer/peel.ends"], plainKeys := false, apart := false, laid := [("lucifer/peel.ends", laid_lucifer_peel_ends)] }
def PeelColumnsSaid : Prop := peelColumnsRow.holds Tryd.pinned (OpenSpec.ofChange peelColumnsSpec)

/-- ITS FALSE NEIGHBOUR: 'it returns false'. Refute it at one input. -/
def peelColumnsWrong : ChangeSpec := { name := "peelColumns", fn := fun _ => fun
  | [d1, d2] => { results := [.lit (.bool false)], args := [d1, d2] }
  | _ => none }
def PeelColumnsWrongFalsely : Prop := peelColumnsRow.holds Tryd.pinned (OpenSpec.ofChange peelColumnsWrong)

/-- 'luciferlaw01.PeelCuts': WHATEVER THE INPUT: true; the input reads as it did. -/
def peelCutsSpec : ChangeSpec := { name := "peelCuts", fn := fun _ => fun
  | [d1, d2] => { results := [.lit (.bool true)], args := [d1, d2] }
  | _ => none }
def peelCutsRow : OpenClaim := { program := "ytigofgdmefobaaadoor", sum := "27847ea6b91d1131d4043ab91c881d235b0c591a5320b4029512d2bea5d94ece", func := "lucifer/luciferlaw01.PeelCuts", spec := "peelCuts", unfollowed := true, recurses := true, named := ["lucifer/peel.ends"], plainKeys := false, apart := false, laid := [("lucifer/peel.ends", laid_lucifer_peel_ends)] }
def PeelCutsSaid : Prop := peelCutsRow.holds Tryd.pinned (OpenSpec.ofChange peelCutsSpec)

/-- ITS FALSE NEIGHBOUR: 'it returns false'. Refute it at one input. -/
def peelCutsWrong : ChangeSpec := { name := "peelCuts", fn := fun _ => fun
  | [d1, d2] => { results := [.lit (.bool false)], args := [d1, d2] }
  | _ => none }
def PeelCutsWrongFalsely : Prop := peelCutsRow.holds Tryd.pinned (OpenSpec.ofChange peelCutsWrong)

/-- 'luciferlaw01.PeelBests': WHATEVER THE INPUT: true; the input reads as it did. -/
def peelBestsSpec : ChangeSpec := { name := "peelBests", fn := fun _ => fun
  | [d] => { results := [.lit (.bool true)], args := [d] }
  | _ => none }
def peelBestsRow : OpenClaim := { program := "ytigofgdmefobaaadoor", sum := "27847ea6b91d1131d4043ab91c881d235b0c591a5320b4029512d2bea5d94ece", func := "lucifer/luciferlaw01.PeelBests", spec := "peelBests", unfollowed := true, recurses := true, named := ["lucifer/peel.ends"], plainKeys := false, apart := false, laid := [("lucifer/peel.ends", laid_lucifer_peel_ends)] }
def PeelBestsSaid : Prop := peelBestsRow.holds Tryd.pinned (OpenSpec.ofChange peelBestsSpec)

/-- ITS FALSE NEIGHBOUR: 'it returns false'. Refute it at one input. -/
def peelBestsWrong : ChangeSpec := { name := "peelBests", fn := fun _ => fun
  | [d] => { results := [.lit (.bool false)], args := [d] }
  | _ => none }
def PeelBestsWrongFalsely : Prop := peelBestsRow.holds Tryd.pinned (OpenSpec.ofChange peelBestsWrong)

/-- 'luciferlaw01.PeelTrue': WHATEVER THE INPUT: true; the input reads as it did. -/
def peelTrueSpec : ChangeSpec := { name := "peelTrue", fn := fun _ => fun
  | [d1, d2, d3] => { results := [.lit (.bool true)], args := [d1, d2, d3] }
  | _ => none }
def peelTrueRow : OpenClaim := { program := "ytigofgdmefobaaadoor", sum := "27847ea6b91d1131d4043ab91c881d235b0c591a5320b4029512d2bea5d94ece", func := "lucifer/luciferlaw01.PeelTrue", spec := "peelTrue", unfollowed := true, recurses := true, named := ["lucifer/peel.ends"], plainKeys := false, apart := false, laid := [("lucifer/peel.ends", laid_lucifer_peel_ends)] }
def PeelTrueSaid : Prop := peelTrueRow.holds Tryd.pinned (OpenSpec.ofChange peelTrueSpec)

/-- ITS FALSE NEIGHBOUR: 'it returns false'. Refute it at one input. -/
def peelTrueWrong : ChangeSpec := { name := "peelTrue", fn := fun _ => fun
  | [d1, d2, d3] => { results := [.lit (.bool false)], args := [d1, d2, d3] }
  | _ => none }
def PeelTrueWrongFalsely : Prop := peelTrueRow.holds Tryd.pinned (OpenSpec.ofChange peelTrueWrong)

/-- 'luciferlaw01.PeelMost': WHATEVER THE INPUT: true; the input reads as it did. -/
def peelMostSpec : ChangeSpec := { name := "peelMost", fn := fun _ => fun
  | [d1, d2] => { results := [.lit (.bool true)], args := [d1, d2] }
  | _ => none }
def peelMostRow : OpenClaim := { program := "ytigofgdmefobaaadoor", sum := "27847ea6b91d1131d4043ab91c881d235b0c591a5320b4029512d2bea5d94ece", func := "lucifer/luciferlaw01.PeelMost", spec := "peelMost", unfollowed := true, recurses := true, named := ["lucifer/peel.ends"], plainKeys := false, apart := false, laid := [("lucifer/peel.ends", laid_lucifer_peel_ends)] }
def PeelMostSaid : Prop := peelMostRow.holds Tryd.pinned (OpenSpec.ofChange peelMostSpec)

/-- ITS FALSE NEIGHBOUR: 'it returns false'. Refute it at one input. -/
def peelMostWrong : ChangeSpec := { name := "peelMost", fn := fun _ => fun
  | [d1, d2] => { results := [.lit (.bool false)], args := [d1, d2] }
  | _ => none }
def PeelMostWrongFalsely : Prop := peelMostRow.holds Tryd.pinned (OpenSpec.ofChange peelMostWrong)

/-- 'luciferlaw01.PeelKnotty': WHATEVER THE INPUT: true; the input reads as it did. -/
def peelKnottySpec : ChangeSpec := { name := "peelKnotty", fn := fun _ => fun
  | [d1, d2, d3] => { results := [.lit (.bool true)], args := [d1, d2, d3] }
  | _ => none }
def peelKnottyRow : OpenClaim := { program := "ytigofgdmefobaaadoor", sum := "27847ea6b91d1131d4043ab91c881d235b0c591a5320b4029512d2bea5d94ece", func := "lucifer/luciferlaw01.PeelKnotty", spec := "peelKnotty", unfollowed := true, recurses := true, named := ["lucifer/peel.ends"], plainKeys := false, apart := false, laid := [("lucifer/peel.ends", laid_lucifer_peel_ends)] }
def PeelKnottySaid : Prop := peelKnottyRow.holds Tryd.pinned (OpenSpec.ofChange peelKnottySpec)

/-- ITS FALSE NEIGHBOUR: 'it returns false'. Refute it at one input. -/
def peelKnottyWrong : ChangeSpec := { name := "peelKnotty", fn := fun _ => fun
  | [d1, d2, d3] => { results := [.lit (.bool false)], args := [d1, d2, d3] }
  | _ => none }
def PeelKnottyWrongFalsely : Prop := peelKnottyRow.holds Tryd.pinned (OpenSpec.ofChange peelKnottyWrong)

/-- 'luciferlaw01.PeelHope': WHATEVER THE INPUT: true; the input reads as it did. -/
def peelHopeSpec : ChangeSpec := { name := "peelHope", fn := fun _ => fun
  | [d1, d2] => { results := [.lit (.bool true)], args := [d1, d2] }
  | _ => none }
def peelHopeRow : OpenClaim := { program := "ytigofgdmefobaaadoor", sum := "27847ea6b91d1131d4043ab91c881d235b0c591a5320b4029512d2bea5d94ece", func := "lucifer/luciferlaw01.PeelHope", spec := "peelHope", unfollowed := true, recurses := true, named := ["lucifer/peel.ends"], plainKeys := false, apart := false, laid := [("lucifer/peel.ends", laid_lucifer_peel_ends)] }
def PeelHopeSaid : Prop := peelHopeRow.holds Tryd.pinned (OpenSpec.ofChange peelHopeSpec)

/-- ITS FALSE NEIGHBOUR: 'it returns false'. Refute it at one input. -/
def peelHopeWrong : ChangeSpec := { name := "peelHope", fn := fun _ => fun
  | [d1, d2] => { results := [.lit (.bool false)], args := [d1, d2] }
  | _ => none }
def PeelHopeWrongFalsely : Prop := peelHopeRow.holds Tryd.pinned (OpenSpec.ofChange peelHopeWrong)

/-- 'luciferlaw01.PeelLess': WHATEVER THE INPUT: true; the input reads as it did. -/
def peelLessSpec : ChangeSpec := { name := "peelLess", fn := fun _ => fun
  | [d1, d2] => { results := [.lit (.bool true)], args := [d1, d2] }
  | _ => none }
def peelLessRow : OpenClaim := { program := "ytigofgdmefobaaadoor", sum := "27847ea6b91d1131d4043ab91c881d235b0c591a5320b4029512d2bea5d94ece", func := "lucifer/luciferlaw01.PeelLess", spec := "peelLess", unfollowed := true, recurses := true, named := ["lucifer/peel.ends"], plainKeys := false, apart := false, laid := [("lucifer/peel.ends", laid_lucifer_peel_ends)] }
def PeelLessSaid : Prop := peelLessRow.holds Tryd.pinned (OpenSpec.ofChange peelLessSpec)

/-- ITS FALSE NEIGHBOUR: 'it returns false'. Refute it at one input. -/
def peelLessWrong : ChangeSpec := { name := "peelLess", fn := fun _ => fun
  | [d1, d2] => { results := [.lit (.bool false)], args := [d1, d2] }
  | _ => none }
def PeelLessWrongFalsely : Prop := peelLessRow.holds Tryd.pinned (OpenSpec.ofChange peelLessWrong)

/-- 'luciferlaw01.PeelClean': WHATEVER THE INPUT: true; the input reads as it did. -/
def peelCleanSpec : ChangeSpec := { name := "peelClean", fn := fun _ => fun
  | [d1, d2] => { results := [.lit (.bool true)], args := [d1, d2] }
  | _ => none }
def peelCleanRow : OpenClaim := { program := "ytigofgdmefobaaadoor", sum := "27847ea6b91d1131d4043ab91c881d235b0c591a5320b4029512d2bea5d94ece", func := "lucifer/luciferlaw01.PeelClean", spec := "peelClean", unfollowed := true, recurses := true, named := ["lucifer/peel.ends"], plainKeys := false, apart := false, laid := [("lucifer/peel.ends", laid_lucifer_peel_ends)] }
def PeelCleanSaid : Prop := peelCleanRow.holds Tryd.pinned (OpenSpec.ofChange peelCleanSpec)

/-- ITS FALSE NEIGHBOUR: 'it returns false'. Refute it at one input. -/
def peelCleanWrong : ChangeSpec := { name := "peelClean", fn := fun _ => fun
  | [d1, d2] => { results := [.lit (.bool false)], args := [d1, d2] }
  | _ => none }
def PeelCleanWrongFalsely : Prop := peelCleanRow.holds Tryd.pinned (OpenSpec.ofChange peelCleanWrong)

/-- 'luciferlaw01.PeelAngles': WHATEVER THE INPUT: true; the input reads as it did. -/
def peelAnglesSpec : ChangeSpec := { name := "peelAngles", fn := fun _ => fun
  | [d1, d2] => { results := [.lit (.bool true)], args := [d1, d2] }
  | _ => none }
def peelAnglesRow : OpenClaim := { program := "ytigofgdmefobaaadoor", sum := "27847ea6b91d1131d4043ab91c881d235b0c591a5320b4029512d2bea5d94ece", func := "lucifer/luciferlaw01.PeelAngles", spec := "peelAngles", unfollowed := true, recurses := true, named := ["lucifer/peel.ends"], plainKeys := false, apart := false, laid := [("lucifer/peel.ends", laid_lucifer_peel_ends)] }
def PeelAnglesSaid : Prop := peelAnglesRow.holds Tryd.pinned (OpenSpec.ofChange peelAnglesSpec)

/-- ITS FALSE NEIGHBOUR: 'it returns false'. Refute it at one input. -/
def peelAnglesWrong : ChangeSpec := { name := "peelAngles", fn := fun _ => fun
  | [d1, d2] => { results := [.lit (.bool false)], args := [d1, d2] }
  | _ => none }
def PeelAnglesWrongFalsely : Prop := peelAnglesRow.holds Tryd.pinned (OpenSpec.ofChange peelAnglesWrong)

/-- 'luciferlaw01.PeelAsk': WHATEVER THE INPUT: true; the input reads as it did. -/
def peelAskSpec : ChangeSpec := { name := "peelAsk", fn := fun _ => fun
  | [d1, d2] => { results := [.lit (.bool true)], args := [d1, d2] }
  | _ => none }
def peelAskRow : OpenClaim := { program := "ytigofgdmefobaaadoor", sum := "27847ea6b91d1131d4043ab91c881d235b0c591a5320b4029512d2bea5d94ece", func := "lucifer/luciferlaw01.PeelAsk", spec := "peelAsk", unfollowed := true, recurses := true, named := ["lucifer/peel.ends"], plainKeys := false, apart := false, laid := [("lucifer/peel.ends", laid_lucifer_peel_ends)] }
def PeelAskSaid : Prop := peelAskRow.holds Tryd.pinned (OpenSpec.ofChange peelAskSpec)

/-- ITS FALSE NEIGHBOUR: 'it returns false'. Refute it at one input. -/
def peelAskWrong : ChangeSpec := { name := "peelAsk", fn := fun _ => fun
  | [d1, d2] => { results := [.lit (.bool false)], args := [d1, d2] }
  | _ => none }
def PeelAskWrongFalsely : Prop := peelAskRow.holds Tryd.pinned (OpenSpec.ofChange peelAskWrong)

/-- 'luciferlaw01.PeelKnown': WHATEVER THE INPUT: true; the input reads as it did. -/
def peelKnownSpec : ChangeSpec := { name := "peelKnown", fn := fun _ => fun
  | [] => { results := [.lit (.bool true)], args := [] }
  | _ => none }
def peelKnownRow : OpenClaim := { program := "ytigofgdmefobaaadoor", sum := "27847ea6b91d1131d4043ab91c881d235b0c591a5320b4029512d2bea5d94ece", func := "lucifer/luciferlaw01.PeelKnown", spec := "peelKnown", unfollowed := true, recurses := true, named := ["lucifer/peel.ends"], plainKeys := false, apart := false, laid := [("lucifer/peel.ends", laid_lucifer_peel_ends)] }
def PeelKnownSaid : Prop := peelKnownRow.holds Tryd.pinned (OpenSpec.ofChange peelKnownSpec)

/-- ITS FALSE NEIGHBOUR: 'it returns false'. Refute it at one input. -/
def peelKnownWrong : ChangeSpec := { name := "peelKnown", fn := fun _ => fun
  | [] => { results := [.lit (.bool false)], args := [] }
  | _ => none }
def PeelKnownWrongFalsely : Prop := peelKnownRow.holds Tryd.pinned (OpenSpec.ofChange peelKnownWrong)

/- THE SECOND FORM. 'bulk': how many values and letters a reading holds, each counted each time it is reached (what is shared counts as often as it is met; a slice's spare places count too). A statement '..UptoSaid' is the law's where the arguments, and the package variables that the reading takes, are together of bulk at most 1048576: NARROWER than '..Said'. Prove '..Said' where nothing that the law and all that it calls make is longer than what came in: it says more and counts as full. Else prove '..UptoSaid'. A law counts once. -/
mutual
def uptoBulk {H : Type} : DataW H → Nat
  | .lit (.string bytes) => bytes.length + 1
  | .lit _ => 1
  | .nil => 1
  | .ptr d => uptoBulk d + 1
  | .slice elems spare => uptoBulkAll elems + uptoBulkAll spare + 1
  | .agg parts => uptoBulkAll parts + 1
  | .iface _ d => uptoBulk d + 1
  | .map entries => uptoBulkEntries entries + 1
  | .held _ => 1
def uptoBulkAll {H : Type} : List (DataW H) → Nat
  | [] => 0
  | d :: r => uptoBulk d + uptoBulkAll r
def uptoBulkEntries {H : Type} : List (Lit × DataW H) → Nat
  | [] => 0
  | x :: r => uptoBulkEntry x + uptoBulkEntries r
def uptoBulkEntry {H : Type} : Lit × DataW H → Nat
  | (.string bytes, d) => bytes.length + uptoBulk d + 1
  | (_, d) => uptoBulk d + 1
 end
def uptoSmall : (H : Type) → List (DataW H) → Bool := fun _ ds => decide (uptoBulkAll ds ≤ 1048576)
def OpenSpec.upto (s : _root_.Go.ChangeSpec) : _root_.Go.OpenSpec := { _root_.Go.OpenSpec.ofChange s with cond := some uptoSmall }

/-- 'luciferlaw01.PeelColumns', WHERE WHAT IT READS IS OF BULK AT MOST 1048576: true; the input reads as it did. -/
def peelColumnsUptoRow : OpenClaim := { program := "ytigofgdmefobaaadoor", sum := "27847ea6b91d1131d4043ab91c881d235b0c591a5320b4029512d2bea5d94ece", func := "lucifer/luciferlaw01.PeelColumns", spec := "peelColumns", unfollowed := true, recurses := true, named := ["lucifer/peel.ends"], plainKeys := false, apart := false, laid := [("lucifer/peel.ends", laid_lucifer_peel_ends)], narrowed := true }
def PeelColumnsUptoSaid : Prop := peelColumnsUptoRow.holds Tryd.pinned (OpenSpec.upto peelColumnsSpec)

/-- 'luciferlaw01.PeelCuts', WHERE WHAT IT READS IS OF BULK AT MOST 1048576: true; the input reads as it did. -/
def peelCutsUptoRow : OpenClaim := { program := "ytigofgdmefobaaadoor", sum := "27847ea6b91d1131d4043ab91c881d235b0c591a5320b4029512d2bea5d94ece", func := "lucifer/luciferlaw01.PeelCuts", spec := "peelCuts", unfollowed := true, recurses := true, named := ["lucifer/peel.ends"], plainKeys := false, apart := false, laid := [("lucifer/peel.ends", laid_lucifer_peel_ends)], narrowed := true }
def PeelCutsUptoSaid : Prop := peelCutsUptoRow.holds Tryd.pinned (OpenSpec.upto peelCutsSpec)

/-- 'luciferlaw01.PeelBests', WHERE WHAT IT READS IS OF BULK AT MOST 1048576: true; the input reads as it did. -/
def peelBestsUptoRow : OpenClaim := { program := "ytigofgdmefobaaadoor", sum := "27847ea6b91d1131d4043ab91c881d235b0c591a5320b4029512d2bea5d94ece", func := "lucifer/luciferlaw01.PeelBests", spec := "peelBests", unfollowed := true, recurses := true, named := ["lucifer/peel.ends"], plainKeys := false, apart := false, laid := [("lucifer/peel.ends", laid_lucifer_peel_ends)], narrowed := true }
def PeelBestsUptoSaid : Prop := peelBestsUptoRow.holds Tryd.pinned (OpenSpec.upto peelBestsSpec)

/-- 'luciferlaw01.PeelTrue', WHERE WHAT IT READS IS OF BULK AT MOST 1048576: true; the input reads as it did. -/
def peelTrueUptoRow : OpenClaim := { program := "ytigofgdmefobaaadoor", sum := "27847ea6b91d1131d4043ab91c881d235b0c591a5320b4029512d2bea5d94ece", func := "lucifer/luciferlaw01.PeelTrue", spec := "peelTrue", unfollowed := true, recurses := true, named := ["lucifer/peel.ends"], plainKeys := false, apart := false, laid := [("lucifer/peel.ends", laid_lucifer_peel_ends)], narrowed := true }
def PeelTrueUptoSaid : Prop := peelTrueUptoRow.holds Tryd.pinned (OpenSpec.upto peelTrueSpec)

/-- 'luciferlaw01.PeelMost', WHERE WHAT IT READS IS OF BULK AT MOST 1048576: true; the input reads as it did. -/
def peelMostUptoRow : OpenClaim := { program := "ytigofgdmefobaaadoor", sum := "27847ea6b91d1131d4043ab91c881d235b0c591a5320b4029512d2bea5d94ece", func := "lucifer/luciferlaw01.PeelMost", spec := "peelMost", unfollowed := true, recurses := true, named := ["lucifer/peel.ends"], plainKeys := false, apart := false, laid := [("lucifer/peel.ends", laid_lucifer_peel_ends)], narrowed := true }
def PeelMostUptoSaid : Prop := peelMostUptoRow.holds Tryd.pinned (OpenSpec.upto peelMostSpec)

/-- 'luciferlaw01.PeelKnotty', WHERE WHAT IT READS IS OF BULK AT MOST 1048576: true; the input reads as it did. -/
def peelKnottyUptoRow : OpenClaim := { program := "ytigofgdmefobaaadoor", sum := "27847ea6b91d1131d4043ab91c881d235b0c591a5320b4029512d2bea5d94ece", func := "lucifer/luciferlaw01.PeelKnotty", spec := "peelKnotty", unfollowed := true, recurses := true, named := ["lucifer/peel.ends"], plainKeys := false, apart := false, laid := [("lucifer/peel.ends", laid_lucifer_peel_ends)], narrowed := true }
def PeelKnottyUptoSaid : Prop := peelKnottyUptoRow.holds Tryd.pinned (OpenSpec.upto peelKnottySpec)

/-- 'luciferlaw01.PeelHope', WHERE WHAT IT READS IS OF BULK AT MOST 1048576: true; the input reads as it did. -/
def peelHopeUptoRow : OpenClaim := { program := "ytigofgdmefobaaadoor", sum := "27847ea6b91d1131d4043ab91c881d235b0c591a5320b4029512d2bea5d94ece", func := "lucifer/luciferlaw01.PeelHope", spec := "peelHope", unfollowed := true, recurses := true, named := ["lucifer/peel.ends"], plainKeys := false, apart := false, laid := [("lucifer/peel.ends", laid_lucifer_peel_ends)], narrowed := true }
def PeelHopeUptoSaid : Prop := peelHopeUptoRow.holds Tryd.pinned (OpenSpec.upto peelHopeSpec)

/-- 'luciferlaw01.PeelLess', WHERE WHAT IT READS IS OF BULK AT MOST 1048576: true; the input reads as it did. -/
def peelLessUptoRow : OpenClaim := { program := "ytigofgdmefobaaadoor", sum := "27847ea6b91d1131d4043ab91c881d235b0c591a5320b4029512d2bea5d94ece", func := "lucifer/luciferlaw01.PeelLess", spec := "peelLess", unfollowed := true, recurses := true, named := ["lucifer/peel.ends"], plainKeys := false, apart := false, laid := [("lucifer/peel.ends", laid_lucifer_peel_ends)], narrowed := true }
def PeelLessUptoSaid : Prop := peelLessUptoRow.holds Tryd.pinned (OpenSpec.upto peelLessSpec)

/-- 'luciferlaw01.PeelClean', WHERE WHAT IT READS IS OF BULK AT MOST 1048576: true; the input reads as it did. -/
def peelCleanUptoRow : OpenClaim := { program := "ytigofgdmefobaaadoor", sum := "27847ea6b91d1131d4043ab91c881d235b0c591a5320b4029512d2bea5d94ece", func := "lucifer/luciferlaw01.PeelClean", spec := "peelClean", unfollowed := true, recurses := true, named := ["lucifer/peel.ends"], plainKeys := false, apart := false, laid := [("lucifer/peel.ends", laid_lucifer_peel_ends)], narrowed := true }
def PeelCleanUptoSaid : Prop := peelCleanUptoRow.holds Tryd.pinned (OpenSpec.upto peelCleanSpec)

/-- 'luciferlaw01.PeelAngles', WHERE WHAT IT READS IS OF BULK AT MOST 1048576: true; the input reads as it did. -/
def peelAnglesUptoRow : OpenClaim := { program := "ytigofgdmefobaaadoor", sum := "27847ea6b91d1131d4043ab91c881d235b0c591a5320b4029512d2bea5d94ece", func := "lucifer/luciferlaw01.PeelAngles", spec := "peelAngles", unfollowed := true, recurses := true, named := ["lucifer/peel.ends"], plainKeys := false, apart := false, laid := [("lucifer/peel.ends", laid_lucifer_peel_ends)], narrowed := true }
def PeelAnglesUptoSaid : Prop := peelAnglesUptoRow.holds Tryd.pinned (OpenSpec.upto peelAnglesSpec)

/-- 'luciferlaw01.PeelAsk', WHERE WHAT IT READS IS OF BULK AT MOST 1048576: true; the input reads as it did. -/
def peelAskUptoRow : OpenClaim := { program := "ytigofgdmefobaaadoor", sum := "27847ea6b91d1131d4043ab91c881d235b0c591a5320b4029512d2bea5d94ece", func := "lucifer/luciferlaw01.PeelAsk", spec := "peelAsk", unfollowed := true, recurses := true, named := ["lucifer/peel.ends"], plainKeys := false, apart := false, laid := [("lucifer/peel.ends", laid_lucifer_peel_ends)], narrowed := true }
def PeelAskUptoSaid : Prop := peelAskUptoRow.holds Tryd.pinned (OpenSpec.upto peelAskSpec)

/-- 'luciferlaw01.PeelKnown', WHERE WHAT IT READS IS OF BULK AT MOST 1048576: true; the input reads as it did. -/
def peelKnownUptoRow : OpenClaim := { program := "ytigofgdmefobaaadoor", sum := "27847ea6b91d1131d4043ab91c881d235b0c591a5320b4029512d2bea5d94ece", func := "lucifer/luciferlaw01.PeelKnown", spec := "peelKnown", unfollowed := true, recurses := true, named := ["lucifer/peel.ends"], plainKeys := false, apart := false, laid := [("lucifer/peel.ends", laid_lucifer_peel_ends)], narrowed := true }
def PeelKnownUptoSaid : Prop := peelKnownUptoRow.holds Tryd.pinned (OpenSpec.upto peelKnownSpec)

end Rows
end Go.Proofs.YtigofgdmefobaaaDoor
