/- BestUnder: 'Under returns the specified Ask': the given card holds. -/
import Derived.Test.YtmeibjhimcgplaaGreatDoorHpBestUnderRow
import Derived.Test.YtmeibjhimcgplaaGreatDoorHpU
import Derived.Test.YtmeibjhimcgplaaGreatDoorHpR
set_option linter.all false
namespace Go.Proofs.YtmeibjhimcgplaaGreatDoor
open Go Hp Hp.T
open Go.ChangeShapes
set_option maxRecDepth 100000
theorem relL_two {W : World} {p q : PV} {u v : Value} (h1 : Rel W noN noR p u) (h2 : Rel W noN noR q v) : RelL W noN noR [p, q] #[u, v] :=
  ⟨rfl, fun i hi => by
    have hi : i < 2 := hi
    match i, hi with
    | 0, _ => exact h1
    | 1, _ => exact h2⟩
theorem bestUnder_run (hcopy : ∀ p : Problem, p.good → Iso E2 f_problem_Copy [p.e] ((copyProblem p).e)) {H : Type} (enc : TypeId × Value → H) (W : World) (base : Nat) (args : Array Value) (ds : List (DataW H)) (p : List MemPlace) (hval : ∀ (j : Nat) t v, [39, 3][j]? = some t → args.toList[j]? = some v → Value.okWide Tryz.prog W .any base t v)
    (ht : DataW.TrodAll enc Tryz.prog W 0 (fun _ => true) true [39, 3] args.toList ds p) (hw : ∀ n ∈ DataW.weightsEach Tryz.prog [39, 3] ds, n ≤ reachBytes) : ∃ l, RelL W noN noR l args ∧ Iso E2 8 l (.bool true) := by
  obtain ⟨v0, v1, d0, d1, p0, p1, rfl, rfl, rfl, h0, h1⟩ := trodAll_two ht
  obtain ⟨l, ⟨x, hx, he⟩, hr⟩ := rdAsk.struct Tryz.underlying39 h0 (fun n hn => hw n (by simp [DataW.weightsEach, hn])) (hval 0 39 v0 rfl rfl)
  obtain ⟨m, _, rfl⟩ := arg_int Tryz.underlying3 h1 (hval 1 3 v1 rfl rfl)
  exact ⟨[x.e, i64 m], relL_two (he ▸ hr) (.int ..), bestUnder_ok hcopy x hx m⟩
end Go.Proofs.YtmeibjhimcgplaaGreatDoor
