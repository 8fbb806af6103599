/- Closed facts of the program, each by itself. -/
import Derived.Test.YtmeibjhimcgplaaGreatDoorRows
import Derived.JoinedOf
import Derived.SevenTiedAt
set_option linter.all false
namespace Go.Proofs.YtmeibjhimcgplaaGreatDoor
open Go
set_option maxRecDepth 100000
theorem jMaps : mapsRowed Tryz.prog = true := by kernel_rfl
theorem jStops : (Tryz.prog.stops == []) = true := by kernel_rfl
theorem jKnobs : (Tryz.prog.stopKnobs == []) = true := by kernel_rfl
theorem jKeys : (false == Tryz.prog.plainKeys) = true := by kernel_rfl
theorem jHeard : Tryz.prog.stopsHeard = true := by kernel_rfl
theorem jEnter : Tryz.prog.mayEnter = true := by kernel_rfl
theorem jOut4 : (#[4].all fun t => Tryz.prog.readableRec t && decide (t < Tryz.prog.types.size)) = true := by kernel_rfl
theorem jRead39 : Tryz.prog.readableRec 39 = true := by kernel_rfl
theorem jRead3 : Tryz.prog.readableRec 3 = true := by kernel_rfl
theorem jSize39 : 39 < Tryz.prog.types.size := of_decide_eq_true (by kernel_rfl)
theorem jSize3 : 3 < Tryz.prog.types.size := of_decide_eq_true (by kernel_rfl)
theorem noGoes : Tryz.prog.funcs.any Func.goes = false := by kernel_rfl
theorem goes_no (f : FuncId) : Tryz.prog.goes f = false := by
  have h : ∀ g : Nat, (Tryz.prog.funcs[g]?).any Func.goes = false := by
    intro g
    cases hg : Tryz.prog.funcs[g]? with
    | none => rfl
    | some fn =>
      have := Array.any_eq_false'.1 noGoes fn (Array.mem_of_getElem? hg)
      simpa using this
  unfold Program.goes
  rw [noGoes, Bool.and_false, Bool.or_false, List.any_eq_false]
  intro g _
  rw [h g]; simp
theorem goesBy_no {c : OpenClaim} (hs : c.start = .entering) : false = c.goesBy Tryz.prog := by
  unfold OpenClaim.goesBy Program.goesAt Program.goesFrom
  rw [hs]
  cases Tryz.prog.funcNamed c.func with
  | none => rfl
  | some f => simp [goes_no f]
theorem jMain : Tryz.prog.mainIs = some (true, "dc7159a6b3ec38f30a50dd4c1b1a441d3a1104ac700846ce0eb44e7a13d01ab8".toList) := by kernel_rfl
theorem jLooks : true = Tryz.prog.looks [] := by kernel_rfl
end Go.Proofs.YtmeibjhimcgplaaGreatDoor
