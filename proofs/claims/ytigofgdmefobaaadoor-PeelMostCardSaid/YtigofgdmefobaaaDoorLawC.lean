/- The chapter's examples: what each function answers of the chapter's log. -/
import Derived.Test.YtigofgdmefobaaaDoorLawB
set_option linter.unusedVariables false
set_option linter.unusedSimpArgs false
namespace Go.Proofs.YtigofgdmefobaaaDoor.Peel
open Go.RowKit Go.Proofs.YtigofgdmefobaaaDoor.Iter
attribute [local go_sem] Oper.semAt_some
theorem exOk : logP.Ok := by decide
theorem exColumn : columnS logP 1 7 = (12, 0) := by decide +kernel
theorem exKnotty : knottyS logP 17 = (2, 0) := by decide +kernel
theorem exWhole : wholeS logP [0, 3, 6, 9] = ((2, 4), 0) := by decide +kernel
theorem exBest : bestS logP = ([0, 3, 13, 22], 0) := by decide +kernel
theorem exWaste : wasteS logP = (15, 0) := by decide +kernel
theorem exHope : hopeS logP = (7, 0) := by decide +kernel
theorem exSure : sureS logP [0, 3, 6, 9] = (2, 0) := by decide +kernel
theorem exAsk : askS logP = (0, 0) := by decide +kernel
theorem exIsCut : isCutS logP [24] = (true, 0) := by decide +kernel
theorem exRibbon : ribbonS logP = (27, 0) := by decide +kernel
end Go.Proofs.YtigofgdmefobaaaDoor.Peel
