/- The policies' names: what the functions answer. -/
import Derived.Test.YtibgjojeppijfaaGreatDoorV4
import Derived.Test.YtibgjojeppijfaaGreatDoorV2
set_option linter.unusedVariables false
namespace Go.Vx.Tz
open Go Go.Vx Go.Proofs Go.RowKit
variable {ρ : Type}
def noF : FuncId → Bool := fun _ => false
def nN : Orc := fun _ _ _ => none
def nK : OrcK ρ := fun _ _ _ _ => none
theorem nK_eq : IsK (ρ := ρ) nN nK := fun _ _ _ _ => rfl
/-- No function but those of the program. -/
noncomputable def tw (n : Nat) : Orc := tower cf dN noF nN 100 n
noncomputable def twK (n : Nat) : OrcK ρ := towerK cf dN noF nK 100 n
set_option maxRecDepth 100000 in
theorem tw_ok (n : Nat) : OKo Tryz.prog (tw n) := tower_ok good dN_ok none_ok noF 100 n
set_option maxRecDepth 100000 in
theorem twK_eq (n : Nat) : IsK (ρ := ρ) (tw n) (twK n) := towerK_eq nK_eq cf dN noF 100 n
def nm (i : Nat) : ByteArray := match i with
  | 1 => ⟨#[78, 79, 78, 69]⟩
  | 2 => ⟨#[66, 65, 67, 75, 87, 65, 82, 68]⟩
  | 3 => ⟨#[66, 65, 67, 75, 87, 65, 82, 68, 95, 84, 82, 65, 78, 83, 73, 84, 73, 86, 69]⟩
  | 4 => ⟨#[70, 79, 82, 87, 65, 82, 68]⟩
  | 5 => ⟨#[70, 79, 82, 87, 65, 82, 68, 95, 84, 82, 65, 78, 83, 73, 84, 73, 86, 69]⟩
  | 6 => ⟨#[70, 85, 76, 76]⟩
  | 7 => ⟨#[70, 85, 76, 76, 95, 84, 82, 65, 78, 83, 73, 84, 73, 86, 69]⟩
  | _ => ⟨#[]⟩
/-- The names, one after another. -/
def ofB (s : ByteArray) (k : Int → Int → Option ρ) : Option ρ :=
  bif decide (nm 1 = s) then k 1 0 else bif decide (nm 2 = s) then k 2 0 else bif decide (nm 3 = s) then k 3 0 else bif decide (nm 4 = s) then k 4 0 else
  bif decide (nm 5 = s) then k 5 0 else bif decide (nm 6 = s) then k 6 0 else bif decide (nm 7 = s) then k 7 0 else k 0 2
theorem of28 (s : ByteArray) (k : Out → List Ob → Option ρ) : twK 4 28 [.s s] [] k = ofB s fun p e => k (.ret (.tup [.m (.int .u8 p), .m (.int .i64 e)])) [] := by kernel_rfl
theorem of29 (s : ByteArray) (k : Out → List Ob → Option ρ) : twK 4 29 [.s s] [] k = ofB s fun p e => k (.ret (.tup [.m (.int .u8 p), .m (.int .i64 e)])) [] := by kernel_rfl
/-! The same, as functions of the input. -/
def ofI (s : ByteArray) : Int := match ofB s (fun p _ => some p) with | some p => p | none => 0
def ofE (s : ByteArray) : Int := match ofB s (fun _ e => some e) with | some e => e | none => 0
theorem ofB_eq (s : ByteArray) (k : Int → Int → Option ρ) : ofB s k = k (ofI s) (ofE s) := by
  unfold ofI ofE ofB
  cases decide (nm 1 = s) <;> cases decide (nm 2 = s) <;> cases decide (nm 3 = s) <;> cases decide (nm 4 = s) <;> cases decide (nm 5 = s) <;> cases decide (nm 6 = s) <;> cases decide (nm 7 = s) <;> rfl
def inU8 (p : Int) : Bool := decide (0 ≤ p) && decide (p ≤ 255)
def nameI (p : Int) : ByteArray := nm p.toNat
def nameE (p : Int) : Int := bif decide (1 ≤ p) && decide (p ≤ 7) then 0 else 2
noncomputable def tells (f : FuncId) (p : Nat) : Bool := match tw 4 f [.m (.int .u8 (Int.ofNat p))] [] with
  | some (.ret (.tup [.c (.d (.m (.string a))), .c (.d (.m (.int .i64 e)))]), []) => decide (a = nameI (Int.ofNat p)) && decide (e = nameE (Int.ofNat p))
  | _ => false
theorem tells_all : ((List.range 256).all fun p => tells 26 p && tells 27 p) = true := by kernel_rfl
theorem tells_of {f : FuncId} {p : Nat} (h : tells f p = true) : tw 4 f [.m (.int .u8 (Int.ofNat p))] [] = some (.ret (.tup [.s (nameI (Int.ofNat p)), .m (.int .i64 (nameE (Int.ofNat p)))]), []) := by
  unfold tells at h
  split at h
  · rename_i a e he
    simp only [Bool.and_eq_true, decide_eq_true_eq] at h
    rw [he, ← h.1, ← h.2]
  · cases h
theorem inU8_nat {p : Int} (h : inU8 p = true) : ∃ n : Nat, n < 256 ∧ p = Int.ofNat n := by
  simp only [inU8, Bool.and_eq_true, decide_eq_true_eq] at h
  exact ⟨p.toNat, by omega, by show p = ((p.toNat : Nat) : Int); omega⟩
theorem name_ok (f : FuncId) (hf : f = 26 ∨ f = 27) {p : Int} (h : inU8 p = true) : tw 4 f [.m (.int .u8 p)] [] = some (.ret (.tup [.s (nameI p), .m (.int .i64 (nameE p))]), []) := by
  obtain ⟨n, hn, rfl⟩ := inU8_nat h
  have := List.all_eq_true.1 tells_all n (List.mem_range.2 hn)
  rw [Bool.and_eq_true] at this
  rcases hf with rfl | rfl
  · exact tells_of this.1
  · exact tells_of this.2
theorem of_ok (f : FuncId) (hf : f = 28 ∨ f = 29) (s : ByteArray) : tw 4 f [.s s] [] = some (.ret (.tup [.m (.int .u8 (ofI s)), .m (.int .i64 (ofE s))]), []) := by
  refine of_K (twK_eq 4) ?_
  rcases hf with rfl | rfl
  · rw [of28, ofB_eq]
  · rw [of29, ofB_eq]
/-- What the names' law comes to. -/
def is5 (f : FuncId) : Bool := Nat.beq f 25 || Nat.beq f 26 || Nat.beq f 27 || Nat.beq f 28 || Nat.beq f 29
def sp5 : Orc := fun f args objs => bif Nat.beq f 25 then (match args, objs with | [], [] => some (.ret (.b true), []) | _, _ => none)
  else bif Nat.beq f 26 || Nat.beq f 27 then (match args, objs with | [.c (.d (.m (.int .u8 p)))], [] => bif inU8 p then some (.ret (.tup [.s (nameI p), .m (.int .i64 (nameE p))]), []) else none | _, _ => none)
  else bif Nat.beq f 28 || Nat.beq f 29 then (match args, objs with | [.c (.d (.m (.string s)))], [] => some (.ret (.tup [.m (.int .u8 (ofI s)), .m (.int .i64 (ofE s))]), []) | _, _ => none) else none
def sp5K : OrcK ρ := fun f args objs k => bif Nat.beq f 25 then (match args, objs with | [], [] => k (.ret (.b true)) [] | _, _ => none)
  else bif Nat.beq f 26 || Nat.beq f 27 then (match args, objs with | [.c (.d (.m (.int .u8 p)))], [] => bif inU8 p then k (.ret (.tup [.s (nameI p), .m (.int .i64 (nameE p))])) [] else none | _, _ => none)
  else bif Nat.beq f 28 || Nat.beq f 29 then (match args, objs with | [.c (.d (.m (.string s)))], [] => k (.ret (.tup [.m (.int .u8 (ofI s)), .m (.int .i64 (ofE s))])) [] | _, _ => none) else none
theorem sp5_eq : IsK (ρ := ρ) sp5 sp5K := by
  intro f args objs k
  unfold sp5 sp5K
  cases Nat.beq f 25 with
  | true => simp only [cond_true]; split <;> rfl
  | false =>
    simp only [cond_false]
    cases (Nat.beq f 26 || Nat.beq f 27) with
    | true =>
      simp only [cond_true]
      split
      · rename_i p; cases inU8 p <;> rfl
      · rfl
    | false =>
      simp only [cond_false]
      cases (Nat.beq f 28 || Nat.beq f 29) with
      | true => simp only [cond_true]; split <;> rfl
      | false => rfl
theorem beq_or {f a b : Nat} (h : (Nat.beq f a || Nat.beq f b) = true) : f = a ∨ f = b := by
  rw [Bool.or_eq_true] at h
  exact h.imp Nat.eq_of_beq_eq_true Nat.eq_of_beq_eq_true
set_option maxRecDepth 100000 in
theorem sp5_ok {orc : Orc} (ok : OKo Tryz.prog orc) (h25 : orc 25 [] [] = some (.ret (.b true), [])) : OKo Tryz.prog sp5 := by
  intro f args objs out objs' h
  unfold sp5 at h
  cases h1 : Nat.beq f 25 with
  | true =>
    rw [h1, cond_true] at h
    have := Nat.eq_of_beq_eq_true h1
    subst this
    split at h
    · cases h; exact ok _ _ _ _ _ h25
    · cases h
  | false =>
    rw [h1, cond_false] at h
    cases h2 : (Nat.beq f 26 || Nat.beq f 27) with
    | true =>
      rw [h2, cond_true] at h
      split at h
      · rename_i p
        cases hp : inU8 p with
        | true =>
          rw [hp] at h
          cases h
          exact tw_ok 4 _ _ _ _ _ (name_ok f (beq_or h2) hp)
        | false => rw [hp] at h; cases h
      · cases h
    | false =>
      rw [h2, cond_false] at h
      cases h3 : (Nat.beq f 28 || Nat.beq f 29) with
      | true =>
        rw [h3, cond_true] at h
        split at h
        · rename_i s
          cases h
          exact tw_ok 4 _ _ _ _ _ (of_ok f (beq_or h3) s)
        · cases h
      | false => rw [h3] at h; cases h
noncomputable def tw5 : Orc := evFn cf dN (tower cf dN is5 sp5 100 1) 100
noncomputable def tw5K : OrcK ρ := evFnK cf dN (towerK cf dN is5 sp5K 100 1) 100
theorem law5_tree (p : Int) (s : ByteArray) (k : Out → List Ob → Option ρ) : tw5K 5 [.m (.int .u8 p), .s s] [] k =
    bif decide ((1024 : Int) < (s.size : Int)) then k (.ret (.b true)) [] else bif inU8 p then bif inU8 p then
      bif decide (nameI p = nameI p) then bif decide (nameE p = nameE p) then bif decide (ofI s = ofI s) then bif decide (ofE s = ofE s) then bif !decide (nameE p = 0) then k (.ret (.b true)) [] else
        bif decide (ofI (nameI p) = p) then bif decide (ofE (nameI p) = 0) then k (.ret (.b true)) [] else k (.ret (.b false)) [] else k (.ret (.b false)) []
      else k (.ret (.b false)) [] else k (.ret (.b false)) [] else k (.ret (.b false)) [] else k (.ret (.b false)) [] else none else none := by kernel_rfl
theorem back_all : ((List.range 8).all fun n => Nat.beq n 0 || (decide (ofI (nameI (Int.ofNat n)) = Int.ofNat n) && decide (ofE (nameI (Int.ofNat n)) = 0))) = true := by kernel_rfl
theorem back_of {p : Int} (h1 : 1 ≤ p) (h2 : p ≤ 7) : ofI (nameI p) = p ∧ ofE (nameI p) = 0 := by
  obtain ⟨n, rfl⟩ : ∃ n : Nat, p = Int.ofNat n := ⟨p.toNat, by show p = ((p.toNat : Nat) : Int); omega⟩
  have hn : n < 8 := by
    have : (Int.ofNat n : Int) = (n : Int) := rfl
    omega
  have h0 : Nat.beq n 0 = false := by
    rw [beq_dec, decide_eq_false]
    have : (Int.ofNat n : Int) = (n : Int) := rfl
    omega
  have := List.all_eq_true.1 back_all n (List.mem_range.2 hn)
  rw [h0, Bool.false_or, Bool.and_eq_true, decide_eq_true_eq, decide_eq_true_eq] at this
  exact this
theorem law5 (p : Int) (s : ByteArray) (hp : inU8 p = true) : tw5 5 [.m (.int .u8 p), .s s] [] = some (.ret (.b true), []) := by
  refine of_K (evFnK_eq (towerK_eq sp5_eq cf dN is5 100 1) cf dN 100) ?_
  refine (law5_tree p s _).trans ?_
  rw [hp]
  simp only [cond_true, decide_true]
  cases decide ((1024 : Int) < (s.size : Int)) with
  | true => rfl
  | false =>
    simp only [cond_false]
    by_cases h : 1 ≤ p ∧ p ≤ 7
    · obtain ⟨h1, h2⟩ := back_of h.1 h.2
      have : nameE p = 0 := by unfold nameE; rw [decide_eq_true h.1, decide_eq_true h.2]; rfl
      rw [this, h1, h2, decide_eq_true (rfl : p = p)]
      rfl
    · have : nameE p = 2 := by
        unfold nameE
        rw [← Bool.decide_and, decide_eq_false h]; rfl
      rw [this]
      rfl
set_option maxRecDepth 100000 in
theorem tw5_ok {orc : Orc} (ok : OKo Tryz.prog orc) (h25 : orc 25 [] [] = some (.ret (.b true), [])) : OKo Tryz.prog tw5 :=
  evFn_okG good dN_ok (tower_ok good dN_ok (sp5_ok ok h25) is5 100 1) 100
end Go.Vx.Tz
