/- BestUnder: the row, out of what the pure law computes. -/
import Derived.Test.YtmeibjhimcgplaaGreatDoorHpV
import Derived.Test.YtmeibjhimcgplaaGreatDoorHpJ
import Derived.Test.YtmeibjhimcgplaaGreatDoorTie
import Derived.Test.YtmeibjhimcgplaaGreatDoorCards
import Derived.SevenTiedAt
set_option linter.all false
namespace Go.Proofs.YtmeibjhimcgplaaGreatDoor
open Go Hp Hp.T
set_option maxRecDepth 100000
set_option maxHeartbeats 20000000
def nilS : Value := .slice none 0 0
def askDflt : Value := .agg #[.string ⟨#[]⟩, .int .i64 0, .int .i64 0, .int .i64 0, nilS, nilS, nilS, nilS, nilS, nilS, nilS, .int .i64 0, .int .i64 0, .int .i64 0, .int .i64 0, nilS, .int .i64 0, nilS, nilS, .int .i64 0]
theorem bestUnder_lifted (hrun : ∀ {H : Type} (enc : TypeId × Value → H) (W : World) (base : Nat) (args : Array Value) (ds : List (DataW H)) (p : List MemPlace), (∀ (j : Nat) t v, [39, 3][j]? = some t → args.toList[j]? = some v → Value.okWide Tryz.prog W .any base t v) →
      DataW.TrodAll enc Tryz.prog W 0 (fun _ => true) true [39, 3] args.toList ds p → (∀ n ∈ DataW.weightsEach Tryz.prog [39, 3] ds, n ≤ reachBytes) → ∃ l, RelL W noN noR l args ∧ Iso E2 8 l (.bool true))
    (os : Os) (started : os.Started) (H : Type) (enc : TypeId × Value → H) :
    ReturnsInHanded {} Tryz.checked os 8 .any (fun w args => (Rows.bestUnderSpec.pre enc Tryz.prog Tryz.f8 [] false w args ∧ laidMetH Tryz.prog laid3 w) ∧ sizedMet enc Tryz.prog Tryz.f8 (OpenSpec.ofChange Rows.bestUnderSpec) false w args)
      (Rows.bestUnderSpec.post enc Tryz.prog Tryz.f8 false true false false) :=
  law_lifted (ts := [39, 3]) Tryz.func8 (by as_aux_lemma => kernel_rfl) rfl rfl ⟨rfl, fun _ => rfl, fun H ds h => by match ds, h with | [d1, d2], _ => rfl⟩
    (by intro t ht; simp only [List.mem_cons, List.not_mem_nil, or_false] at ht; rcases ht with rfl | rfl; exact ⟨jRead39, jSize39⟩; exact ⟨jRead3, jSize3⟩)
    #[askDflt, .int .i64 0] os started H enc (World.shaped_of_RefB (by as_aux_lemma => kernel_rfl) (by as_aux_lemma => kernel_rfl)) (by as_aux_lemma => kernel_rfl) (by as_aux_lemma => kernel_rfl) (by as_aux_lemma => kernel_rfl) (hrun enc)
theorem bestUnder_named : Tryz.prog.funcNamed "horarium/horariumlaw40.BestUnder" = some 8 := by kernel_rfl
theorem bestUnder_in : (Rows.bestUnderRow.inPlace == Tryz.prog.inPlace 8) = true := by kernel_rfl
theorem bestUnder_un : (Rows.bestUnderRow.unfollowed == Tryz.prog.unfollowed 8) = true := by kernel_rfl
theorem bestUnder_rec : (Rows.bestUnderRow.recurses == Tryz.prog.recurses 8) = true := by kernel_rfl
theorem bestUnder_vars : (Rows.bestUnderRow.named == Tryz.prog.varsNamed 8) = true := by kernel_rfl
theorem bestUnder_joined : joinedFacts Tryz.prog 8 Tryz.f8 Rows.bestUnderSpec Rows.bestUnderRow = true := by
  unfold joinedFacts
  simp only [Bool.and_eq_true]
  repeat' apply And.intro
  all_goals first | with_reducible exact laidOut | with_reducible exact jMaps | with_reducible exact jStops | with_reducible exact jKnobs | with_reducible exact bestUnder_in | with_reducible exact bestUnder_un | with_reducible exact bestUnder_rec | with_reducible exact bestUnder_vars | with_reducible exact jHeard | with_reducible exact jEnter | (as_aux_lemma => kernel_rfl)
theorem bestUnder_row (hrun : ∀ {H : Type} (enc : TypeId × Value → H) (W : World) (base : Nat) (args : Array Value) (ds : List (DataW H)) (p : List MemPlace), (∀ (j : Nat) t v, [39, 3][j]? = some t → args.toList[j]? = some v → Value.okWide Tryz.prog W .any base t v) →
      DataW.TrodAll enc Tryz.prog W 0 (fun _ => true) true [39, 3] args.toList ds p → (∀ n ∈ DataW.weightsEach Tryz.prog [39, 3] ds, n ≤ reachBytes) → ∃ l, RelL W noN noR l args ∧ Iso E2 8 l (.bool true)) : Rows.BestUnderSaid :=
  OpenClaim.holds_of_wide 8 Tryz.f8 rfl rfl rfl rfl rfl rfl rfl ⟨rfl, rfl, rfl, rfl, rfl⟩ rfl rfl rfl rfl rfl bestUnder_named Tryz.func8 bestUnder_joined
    (of_decide_eq_true (by as_aux_lemma => kernel_rfl)) (by unfold Func.isWrapper; first | (rw [if_pos (by decide +kernel)]; kernel_rfl) | (rw [if_neg (by decide +kernel)]; exact ⟨rfl, rfl⟩))
    (fun os started H enc _ => bestUnder_lifted hrun os started H enc)
theorem bestUnder_card (hrow : Rows.BestUnderSaid) : Rows.BestUnderCardSaid :=
  Claim7.holds_tied_plain_at .later [] [.data, .data, .data] true (true, "dc7159a6b3ec38f30a50dd4c1b1a441d3a1104ac700846ce0eb44e7a13d01ab8") true
    hrow (fun _ h => by cases h) (by as_aux_lemma => kernel_rfl) (fun _ h => by cases h) bestUnder_row_tie rfl ⟨rfl, rfl⟩ jMain rfl
    (fun f fn hf hfn => by
      obtain rfl : f = 8 := Option.some.inj (bestUnder_named.symm.trans hf) |>.symm
      obtain rfl : fn = Tryz.f8 := (Option.some.inj (Tryz.func8.symm.trans hfn)).symm
      exact ⟨jLooks, fun j t ht => by
        have ht : #[39, 3][j]? = some t := ht
        have hm : t ∈ [39, 3] := by simpa using Array.mem_of_getElem? ht
        have hall : ([39, 3].all fun u => !Tryz.prog.wantsStandIn u) = true := by as_aux_lemma => kernel_rfl
        exact (show Tryz.prog.wantsStandIn t = false by simpa using List.all_eq_true.1 hall t hm)⟩)
    (goesBy_no rfl)
end Go.Proofs.YtmeibjhimcgplaaGreatDoor
