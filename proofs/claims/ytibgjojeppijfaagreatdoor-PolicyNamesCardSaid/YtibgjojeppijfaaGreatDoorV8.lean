/- PolicyNames: the tied card: for every number and every text the law answers true, and reads its input as it did; the listed tables of Go's library hold what the program's text lays. -/
import Derived.Test.YtibgjojeppijfaaGreatDoorV7
import Derived.Test.YtibgjojeppijfaaGreatDoorCards
set_option linter.unusedVariables false
namespace Go.Proofs.YtibgjojeppijfaaGreatDoor
open Go
theorem wants5 (t : TypeId) (h : t ∈ [5, 9]) : Tryz.prog.wantsStandIn t = false := by
  have : ([5, 9] : List TypeId).all (fun t => !Tryz.prog.wantsStandIn t) = true := by kernel_rfl
  have := List.all_eq_true.1 this t h
  simpa using this
theorem goes5 : Tryz.prog.goes 5 = false := by unfold Program.goes; rw [clo5, unfollowed5]; kernel_rfl
theorem goesFrom5 : Tryz.prog.goesFrom Rows.policyNamesRow.func = false := by
  unfold Program.goesFrom
  rw [name5, Option.any_some]
  exact goes5
theorem goesBy5 : Rows.policyNamesRow.goesBy Tryz.prog = false := by
  unfold OpenClaim.goesBy Program.goesAt
  rw [goesFrom5]
  rfl
theorem looks_all : true = Tryz.prog.looks [] := by kernel_rfl
theorem main_is : Tryz.prog.mainIs = some (true, ("29107c6aa61716f110a59a82015978511c54b80a42459714d9a47881d8e1dde6" : String).toList) := by kernel_rfl
theorem byText5 : Rows.policyNamesRow.wfByText (OpenSpec.ofChange Rows.policyNamesSpec) = true := by kernel_rfl
set_option maxRecDepth 100000 in
theorem policyNames_card : Rows.PolicyNamesCardSaid :=
  Claim7.holds_tied_plain_at .later [] [.data, .data, .data, .data, .sentinel, .sentinel, .pinned] true (true, "29107c6aa61716f110a59a82015978511c54b80a42459714d9a47881d8e1dde6") true
    policyNames_holds (fun _ h => by cases h) byText5 (fun _ h => by cases h) policyNames_row_tie rfl ⟨rfl, rfl⟩ main_is rfl
    (fun f fn hf hfn => by
      obtain rfl : f = 5 := Option.some.inj (name5.symm.trans hf) |>.symm
      obtain rfl : fn = Tryz.f5 := (Option.some.inj (Tryz.func5.symm.trans hfn)).symm
      exact ⟨looks_all, fun j t ht => wants5 t (by
        have := List.mem_of_getElem? (Array.getElem?_toList ▸ ht : Tryz.f5.params.toList[j]? = some t)
        rw [params5] at this
        exact this)⟩)
    goesBy5.symm
end Go.Proofs.YtibgjojeppijfaaGreatDoor
