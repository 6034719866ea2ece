/- PolicyNames: for every number and every text the law answers true, and reads its input as it did. Conditions: none but the row's own (the listed tables of Go's library hold what the program's text lays; the card ties them). -/
import Derived.Test.YtibgjojeppijfaaGreatDoorV5
import Derived.Test.YtibgjojeppijfaaGreatDoorV6
import Derived.Test.YtibgjojeppijfaaGreatDoorTie
import Derived.ChangeSame
import Derived.ChangeVars
import Derived.ChangeMaps5
import Derived.JoinedOf
import Derived.RowKit
import Derived.RowKitTokens
import Derived.Lay
import Derived.LaidHandle
import Derived.Stop.Joined
import Derived.SevenTiedAt
set_option linter.unusedVariables false
namespace Go.Proofs.YtibgjojeppijfaaGreatDoor
open Go Go.ChangeShapes Go.WideShapes Go.ChangeMaps Go.RowKit Go.Vx Go.Vx.Tz

theorem own : ownKnob Tryz.prog.godebug = none := by kernel_rfl
/-- What the rows list. -/
abbrev laidAll : List (String × DataW Unit) := Rows.policyNamesRow.laid
theorem laid_fits (os : Os) : (World.holding Tryz.prog os ⟨#[], #[], []⟩).layFits Tryz.prog laidAll [] = true := by kernel_rfl
theorem laid_ifaces (os : Os) : (World.holding Tryz.prog os ⟨#[], #[], []⟩).layIfaces Tryz.prog laidAll (World.laidAll Tryz.prog os laidAll) = true := by kernel_rfl
theorem laid_met (os : Os) (args : Array Value) : laidMetH Tryz.prog laidAll ((World.laidAll Tryz.prog os laidAll).forCall (fun _ _ => 0) ⟨#[], args, []⟩).memory :=
  laidMetH_of_parts (laidMet_laidAll args (laid_fits os) (laid_ifaces os)) (by kernel_rfl)
theorem kept_of {w w' : World} (h1 : w'.os = w.os) (h2 : w'.output = w.output) (h3 : ∀ i, i < w.heap.size → w'.heap[i]? = w.heap[i]?) (may : MemPlace → Prop) : w.keptBut w' may := by
  refine ⟨h1, h2, fun i hi => ?_⟩
  rw [h3 i hi]
  exact (World.keptBut_refl w may).2.2 i hi
set_option maxRecDepth 100000 in
/-- A law of plain values alone, by what the interpreter tells of it. -/
theorem calls_plain {orc : Orc} (ok : OKo Tryz.prog orc) {f : FuncId} {fn : Func} {c : Code} (hf : Tryz.prog.funcs[f]? = some fn) (hb : fn.body = some c) {vs : List V} {us : List Value} (hv : ∀ (w : World) (E : Env), Pv w E (obOf []) vs us)
    (h : orc f vs [] = some (.ret (.b true), [])) (W : World) : Calls Tryz.prog f us.toArray W fun e W' => e = .returned (.bool true) ∧ W'.os = W.os ∧ W'.output = W.output ∧ ∀ i, i < W.heap.size → W'.heap[i]? = W.heap[i]? := by
  have hno : ∀ {α : Prop} {r : Ref} {o : Ob}, obOf [] r = some o → α := fun {α r o} h => by cases r <;> cases h
  have hO : RelO W.heap.size (ownBy ⟨fun _ => 0, fun _ => undef, fun _ _ => False⟩ []) ⟨fun _ => 0, fun _ => undef, fun _ _ => False⟩ (obOf []) W :=
    ⟨fun r o h => hno h, fun r r' o o' k h => hno h, fun r o k h => hno h, fun b x h => h.elim, Nat.le_refl _⟩
  have := ok f vs [] _ _ h W _ us hO (hv W _)
  unfold Does at this
  rw [run_enter hf (good.named _ _ hf) hb] at this
  refine this.mono fun e W' hp => ?_
  obtain ⟨E', _, _, hF, _, ho⟩ := hp
  refine ⟨?_, hF.os, hF.output, fun i hi => hF.block i hi (fun ⟨j, o, hj, _⟩ => by simp at hj)⟩
  cases e with
  | returned u =>
    obtain ⟨⟨n, hn⟩, _⟩ : R1 W' E' (obOf []) (.b true) u := ho
    cases n <;> rw [hn.1]
  | panicked ch => exact ho.elim
  | outgrown => exact ho.elim
theorem ty5 : Tryz.prog.underlying 5 = some (.int .u8) := by kernel_rfl
theorem ty9 : Tryz.prog.underlying 9 = some .string := by kernel_rfl
theorem ty4 : Tryz.prog.underlying 4 = some .bool := by kernel_rfl
theorem params5 : Tryz.f5.params.toList = [5, 9] := by kernel_rfl
theorem body5 : Tryz.f5.body = some (bodyOf Tryz.f5) := by kernel_rfl
theorem u8_wf {n : Int} (h : (Lit.int .u8 n).wf = true) : inU8 n = true := by
  have : IntKind.u8.min ≤ n ∧ n ≤ IntKind.u8.max := by simpa [Lit.wf] using h
  have h1 : IntKind.u8.min = 0 := by decide
  have h2 : IntKind.u8.max = 255 := by decide
  rw [h1, h2] at this
  simp [inU8, this.1, this.2]
set_option maxRecDepth 100000 in
theorem policyNames_lifted (os : Os) (started : os.Started) (H : Type) (enc : TypeId × Value → H) :
    ReturnsInHanded {} Tryz.checked os 5 .any (fun w args => (Rows.policyNamesSpec.pre enc Tryz.prog Tryz.f5 [] false w args ∧ laidMetH Tryz.prog laidAll w) ∧ sizedMet enc Tryz.prog Tryz.f5 (OpenSpec.ofChange Rows.policyNamesSpec) false w args)
      (Rows.policyNamesSpec.post enc Tryz.prog Tryz.f5 false true false false) := by
  refine returnsInHanded_of_change_and (C := Tryz.checked) (X := fun w _ => laidMetH Tryz.prog laidAll w) (fun _ _ _ hh h => h.of_heap hh) own started (by kernel_rfl) Tryz.func5
    (ChangeSpec.witness_at (enc := enc) (C := Tryz.checked) (os := os) (X := fun w _ => laidMetH Tryz.prog laidAll w) false (World.laidAll Tryz.prog os laidAll) #[.int .u8 0, .string ⟨#[]⟩] 8 (World.laidAll_os _ _ _) (by kernel_rfl) (by kernel_rfl) (by kernel_rfl) (by kernel_rfl) (by kernel_rfl) (laid_met os _)) ?_
  intro W base args ds gs before hval0 hW _ _ hL _
  have hval : ∀ (j : Nat) t v, Tryz.f5.params[j]? = some t → args[j]? = some v → Value.okWide Tryz.prog W .any base t v := hval0
  have hW' := hW
  obtain ⟨p, q, hA0, hV0, rfl, hfz, hnd⟩ := hW
  have hA : DataW.TrodAll enc Tryz.prog W 0 (fun _ => true) true Tryz.f5.params.toList args.toList ds p := hA0
  have hV : DataW.TrodVars enc Tryz.prog W (fun _ => true) [] gs q := hV0
  have hp : Tryz.f5.params = #[5, 9] := by rw [← Array.toList_inj]; exact params5
  rw [params5] at hA
  rw [hp] at hval
  obtain ⟨v0, v1, d0, d1, p0, p1, rfl, rfl, rfl, h0, h1⟩ := trodAll_two hA
  obtain ⟨n, rfl, rfl, rfl, hwn⟩ := open_int ty5 (hval 0 5 v0 rfl rfl) h0
  obtain ⟨s, rfl, rfl, rfl, hs⟩ := open_string ty9 (hval 1 9 v1 rfl rfl) h1
  obtain ⟨rfl, rfl⟩ : gs = [] ∧ q = [] := by
    cases gs with
    | nil => exact ⟨rfl, hV⟩
    | cons g r => exact absurd hV (by intro h; cases h)
  have e1 : Rows.policyNamesSpec.fn H ([.lit (.int .u8 n), .lit (.string s.data.toList)] ++ []) = { results := [.lit (.bool true)], args := [.lit (.int .u8 n), .lit (.string s.data.toList)] } := by simp [Rows.policyNamesSpec]
  refine (calls_plain (tw5_ok full3_ok alive17) Tryz.func5 body5 (vs := [.m (.int .u8 n), .s s]) (us := [.int .u8 n, .string s]) (fun w E => ?_) (law5 n s (u8_wf hwn)) W).mono fun e W' ⟨he, ho, hu, hk⟩ => ?_
  · refine ⟨rfl, fun j x hj => ?_⟩
    match j, hj with
    | 0, hj => cases hj; exact ⟨_, rfl, m_R rfl⟩
    | 1, hj => cases hj; exact ⟨_, rfl, m_R rfl⟩
  · subst he
    refine ⟨_, rfl, _, _, _, [], [], [], hW', ?_, ?_, ?_, kept_of ho hu hk _, fun h => by cases h⟩
    · rw [e1]; exact trodAll_mk1 (shut_bool ty4 true)
    · rw [e1]
      show DataW.TrodAll _ _ _ _ _ _ Tryz.f5.params.toList _ _ _
      rw [params5]
      exact trodAll_mk2 (shut_int ty5 hwn) (shut_string ty9 hs)
    · rw [e1]; rfl
/-- The functions that the law comes to. -/
theorem clo5 : Tryz.prog.closure 5 = [5, 25, 78, 31, 83, 84, 139, 140, 141, 127, 118, 142, 52, 110, 111, 112, 113, 194, 116, 186, 183, 241, 242, 292, 291, 293, 243, 244, 294, 295, 331, 332, 44, 43, 97, 174, 175, 176, 177, 178, 240, 290, 179, 182, 180, 181, 105, 35, 87, 88, 148, 149, 199, 252, 299, 333, 253, 167, 230, 231, 232, 285, 233, 286, 327, 287, 328, 282, 326, 348, 277, 349, 350, 254, 300, 150, 200, 165, 222, 189, 246, 201, 151, 202, 256, 310, 255, 301, 307, 339, 302, 334, 303, 335, 336, 304, 337, 338, 352, 305, 306, 308, 309, 203, 152, 153, 154, 204, 257, 258, 311, 340, 259, 312, 341, 260, 205, 261, 313, 342, 206, 262, 89, 90, 155, 207, 187, 208, 209, 263, 314, 343, 353, 358, 264, 315, 344, 354, 316, 345, 156, 210, 157, 211, 265, 212, 266, 317, 320, 318, 319, 143, 195, 321, 267, 322, 268, 323, 346, 355, 357, 363, 364, 356, 359, 365, 360, 361, 366, 362, 269, 270, 48, 106, 107, 108, 184, 245, 109, 144, 79, 135, 136, 137, 22, 66, 117, 188, 190, 247, 69, 126, 128, 129, 130, 61, 115, 114, 185, 138, 85, 145, 146, 196, 26, 28, 82, 81, 27, 80, 29] := by kernel_rfl
theorem inPlace5 : Tryz.prog.inPlace 5 = Rows.policyNamesRow.inPlace := by unfold Program.inPlace; rw [clo5]; kernel_rfl
theorem unfollowed5 : Tryz.prog.unfollowed 5 = true := by unfold Program.unfollowed; rw [clo5]; kernel_rfl
theorem recurses5 : Tryz.prog.recurses 5 = true := by unfold Program.recurses; rw [unfollowed5]; rfl
theorem named5 : Tryz.prog.varsNamed 5 = Rows.policyNamesRow.named := by unfold Program.varsNamed; rw [clo5]; kernel_rfl
theorem facts5 : joinedFacts Tryz.prog 5 Tryz.f5 Rows.policyNamesSpec Rows.policyNamesRow = true := by
  unfold joinedFacts
  rw [inPlace5, unfollowed5, recurses5, named5]
  kernel_rfl
theorem name5 : Tryz.prog.funcNamed Rows.policyNamesRow.func = some 5 := by kernel_rfl
theorem inst5 : Tryz.f5.isInstance Tryz.prog Rows.policyNamesRow.origin Rows.policyNamesRow.targs := of_decide_eq_true (by kernel_rfl)
theorem wrap5 : Tryz.f5.isWrapper Tryz.prog Rows.policyNamesRow.wrapper Rows.policyNamesRow.mainSum := by unfold Func.isWrapper; rw [if_neg (of_decide_eq_false (by kernel_rfl))]; exact ⟨rfl, rfl⟩
set_option maxRecDepth 100000 in
theorem policyNames_holds : Rows.PolicyNamesSaid :=
  OpenClaim.holds_of_wide 5 Tryz.f5 rfl rfl rfl rfl rfl rfl rfl ⟨rfl, rfl, rfl, rfl, rfl⟩ rfl rfl rfl rfl rfl name5 Tryz.func5 facts5 inst5 wrap5
    (fun os started H enc _ => policyNames_lifted os started H enc)
end Go.Proofs.YtibgjojeppijfaaGreatDoor
