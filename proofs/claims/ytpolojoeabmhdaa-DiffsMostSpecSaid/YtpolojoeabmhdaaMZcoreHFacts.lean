import Derived.Test.YtpolojoeabmhdaaRows
import Derived.JoinedOf
set_option linter.unusedVariables false
set_option linter.unusedSimpArgs false
/- What every row asks of the program itself. -/
namespace Go.Proofs.Ytpolojoeabmhdaa.A
open Go
theorem andB {a b : Bool} (ha : a = true) (hb : b = true) : (a && b) = true := by rw [ha, hb]; rfl
theorem own : ownKnob Try.prog.godebug = none := by kernel_rfl
theorem laidOut : laidOutB Try.prog = true := by kernel_rfl
theorem pMapsRowed : mapsRowed Try.prog = true := by kernel_rfl
theorem pStops : (Try.prog.stops == []) = true := by kernel_rfl
theorem pKnobs : (Try.prog.stopKnobs == []) = true := by kernel_rfl
theorem pPlain : (Rows.diffsMetricRow.plainKeys == Try.prog.plainKeys) = true := by kernel_rfl
theorem pHeard : Try.prog.stopsHeard = true := by kernel_rfl
theorem pEnter : Try.prog.mayEnter = true := by kernel_rfl
theorem pLifted : (Rows.diffsMetricRow.lifted == Try.prog.liftsFinal) = true := by kernel_rfl
theorem pMake : (Try.prog.make == some Rows.diffsMetricRow.make) = true := by kernel_rfl
end Go.Proofs.Ytpolojoeabmhdaa.A
