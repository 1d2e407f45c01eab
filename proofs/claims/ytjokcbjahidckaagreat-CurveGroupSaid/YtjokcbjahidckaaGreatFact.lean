/- Closed facts of the program that every row asks, each by itself: no row is named. No condition. -/
import Derived.Test.YtjokcbjahidckaaGreatRows
import Derived.JoinedOf
namespace Go.Proofs.YtjokcbjahidckaaGreat

theorem own : ownKnob Tryz.prog.godebug = none := by kernel_rfl
theorem laidOut : laidOutB Tryz.prog = true := by kernel_rfl
theorem fRowed : mapsRowed Tryz.prog = true := by kernel_rfl
theorem fKeys : Tryz.prog.plainKeys = true := by kernel_rfl
theorem fHeard : Tryz.prog.stopsHeard = true := by kernel_rfl
theorem fEnter : Tryz.prog.mayEnter = true := by kernel_rfl
theorem fLifts : Tryz.prog.liftsFinal = Rows.curveOneRow.lifted := by kernel_rfl
theorem fMake : Tryz.prog.make = some Rows.curveOneRow.make := by kernel_rfl
end Go.Proofs.YtjokcbjahidckaaGreat
