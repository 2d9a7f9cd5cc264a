/- MADE BY PROGRAM (tools350/mkrow.py): closed facts of the program that every row asks. -/
import Derived.Test.Qxb6500350aGreatRows
import Derived.JoinedOf
import Derived.KernelRfl
namespace Go.Proofs.Qxb6500350aGreat.factsR
set_option maxRecDepth 100000
theorem b1 : (laidOutB Tryz.prog) = true := by kernel_rfl
theorem b2 : (mapsRowed Tryz.prog) = true := by kernel_rfl
theorem b6 : ((Tryz.prog.stops == [])) = true := by kernel_rfl
theorem b8 : ((Tryz.prog.stopKnobs == [])) = true := by kernel_rfl
theorem b24 : (Tryz.prog.stopsHeard) = true := by kernel_rfl
theorem b25 : (Tryz.prog.mayEnter) = true := by kernel_rfl
theorem self288 : (((Tryz.prog.funcs[288]?).elim [] Tryz.prog.leadsTo).any fun h => (Tryz.prog.closure h).contains 288) = true := by kernel_rfl
end Go.Proofs.Qxb6500350aGreat.factsR
