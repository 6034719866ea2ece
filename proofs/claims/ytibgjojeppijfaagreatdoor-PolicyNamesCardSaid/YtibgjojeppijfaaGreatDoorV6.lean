/- What every law of the policies asks at its end: the known answers. -/
import Derived.Test.YtibgjojeppijfaaGreatDoorV4
import Derived.Test.YtibgjojeppijfaaGreatDoorV2
set_option linter.unusedVariables false
namespace Go.Vx.Tz
open Go Go.Vx Go.Proofs Go.RowKit
noncomputable def inner : Orc := orcN cf dN oN 100 3
def isCl (f : FuncId) : Bool := Nat.beq f 83 || Nat.beq f 110 || Nat.beq f 111 || Nat.beq f 112
/-- The library's functions that the interpreter does not go into. -/
noncomputable def base : Orc := orElse (cloneE inner isCl) (orElse (sameO 340) bldO)
noncomputable def lib : Orc := orcN cf (dOrc cf 300) base 300 10
noncomputable def full1 : Orc := orcN cf (dOrc cf 300) (orElse (quoO lib 300) base) 300 30
/-! Calls that are answered already. -/
def sameV : V → V → Bool
  | .c a, .c b => a.same b
  | .agg a, .agg b => sameCs a b
  | _, _ => false
def sameVs : List V → List V → Bool
  | [], [] => true
  | a :: l, b :: l' => sameV a b && sameVs l l'
  | _, _ => false
theorem sameV_eq : ∀ {a b : V}, sameV a b = true → a = b
  | .c a, .c b, h => by rw [C.same_eq h]
  | .agg a, .agg b, h => by rw [sameCs_eq h]
  | .c _, .agg _, h => by cases h
  | .c _, .tup _, h => by cases h
  | .agg _, .c _, h => by cases h
  | .agg _, .tup _, h => by cases h
  | .tup _, _, h => by cases h
theorem sameVs_eq : ∀ {l l' : List V}, sameVs l l' = true → l = l'
  | [], [], _ => rfl
  | a :: l, b :: l', h => by
    rw [sameVs, Bool.and_eq_true] at h
    rw [sameV_eq h.1, sameVs_eq h.2]
  | [], _ :: _, h => by cases h
  | _ :: _, [], h => by cases h
structure Memo where
  f : FuncId
  args : List V
  out : Out
def memoGo (f : FuncId) (args : List V) : List Memo → Option (Out × List Ob)
  | [] => none
  | m :: l => bif Nat.beq f m.f && sameVs args m.args then some (m.out, []) else memoGo f args l
def memo (l : List Memo) : Orc := fun f args objs => match objs with
  | [] => memoGo f args l
  | _ => none
def Memo.ok (P : Program) (m : Memo) : Prop := ∃ orc, OKo P orc ∧ orc m.f m.args [] = some (m.out, [])
theorem memo_ok {P : Program} {l : List Memo} (h : ∀ m ∈ l, m.ok P) : OKo P (memo l) := by
  intro f args objs out objs' he
  unfold memo at he
  cases objs with
  | cons _ _ => cases he
  | nil =>
    simp only [] at he
    induction l with
    | nil => cases he
    | cons m l ih =>
      unfold memoGo at he
      cases hb : (Nat.beq f m.f && sameVs args m.args) with
      | true =>
        rw [hb, cond_true] at he
        cases he
        rw [Bool.and_eq_true] at hb
        obtain ⟨orc, ok, ho⟩ := h m (.head _)
        rw [Nat.eq_of_beq_eq_true hb.1, sameVs_eq hb.2]
        exact ok _ _ _ _ _ ho
      | false =>
        rw [hb, cond_false] at he
        exact ih (fun m hm => h m (.tail _ hm)) he
/-- A scope of one kind. -/
def sc (n : Int) : V := .agg [.d (.m (.int .u8 n)), .d (.m (.string ⟨#[]⟩)), .d (.rows 1 []), .d (.rows 15 []), .d (.rows 1 []), .d (.m (.string ⟨#[]⟩)), .d (.rows 8 []), .d (.m (.int .i64 0)), .d (.rows 8 [])]
set_option maxRecDepth 100000 in
theorem same340_ok : OKo Tryz.prog (sameO 340) :=
  sameO_ok (e := Extern.AbiNoEscape.same) Tryz.func340 (by kernel_rfl) (by kernel_rfl) (by kernel_rfl) (by kernel_rfl) (fun u w => rfl)
set_option maxRecDepth 100000 in
theorem inner_ok : OKo Tryz.prog inner := orcN_ok good dN_ok none_ok 100 3
set_option maxRecDepth 100000 in
theorem base_ok : OKo Tryz.prog base := orElse_ok (cloneE_ok inner_ok isCl) (orElse_ok same340_ok bldO_ok)
set_option maxRecDepth 100000 in
theorem lib_ok : OKo Tryz.prog lib := orcN_ok good (dOrc_ok good 300) base_ok 300 10
set_option maxRecDepth 100000 in
theorem full1_ok : OKo Tryz.prog full1 := orcN_ok good (dOrc_ok good 300) (orElse_ok (quoO_ok lib_ok 300) base_ok) 300 30
theorem may3 : full1 84 [sc 3] [] = some (.ret (.m (.int .i64 0)), []) := by kernel_rfl
theorem may4 : full1 84 [sc 4] [] = some (.ret (.m (.int .i64 0)), []) := by kernel_rfl
theorem may8 : full1 84 [sc 8] [] = some (.ret (.m (.int .i64 0)), []) := by kernel_rfl
def mem1 : List Memo := [⟨84, [sc 3], .ret (.m (.int .i64 0))⟩, ⟨84, [sc 4], .ret (.m (.int .i64 0))⟩, ⟨84, [sc 8], .ret (.m (.int .i64 0))⟩]
set_option maxRecDepth 100000 in
theorem mem1_ok : OKo Tryz.prog (memo mem1) := memo_ok fun m hm => by
  have : m = ⟨84, [sc 3], .ret (.m (.int .i64 0))⟩ ∨ m = ⟨84, [sc 4], .ret (.m (.int .i64 0))⟩ ∨ m = ⟨84, [sc 8], .ret (.m (.int .i64 0))⟩ := by simpa [mem1] using hm
  rcases this with rfl | rfl | rfl
  · exact ⟨_, full1_ok, may3⟩
  · exact ⟨_, full1_ok, may4⟩
  · exact ⟨_, full1_ok, may8⟩
noncomputable def full2 : Orc := orcN cf dN (orElse (memo mem1) base) 300 14
set_option maxRecDepth 100000 in
theorem full2_ok : OKo Tryz.prog full2 := orcN_ok good dN_ok (orElse_ok mem1_ok base_ok) 300 14
noncomputable def full3 : Orc := orcN cf dN (orElse (rfO chkR cf full2 300) base) 300 14
set_option maxRecDepth 100000 in
theorem full3_ok : OKo Tryz.prog full3 := orcN_ok good dN_ok (orElse_ok (chkO_ok full2_ok 300) base_ok) 300 14
/-- The known answers are as they are known. -/
theorem alive17 : full3 25 [] [] = some (.ret (.b true), []) := by kernel_rfl
end Go.Vx.Tz
