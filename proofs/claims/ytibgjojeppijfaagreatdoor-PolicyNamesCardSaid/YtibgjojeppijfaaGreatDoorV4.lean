/- A builder's text is told. A text in quotes: the map of escapes, gone through in whatever order. A text in quotes: all of it. Code in a round of a loop over a function, and code behind such a loop. A loop over a function of which all rounds are told ahead. Memory, as a round that turns nothing sees it. A loop over a function, by the interpreter. slices.Backward over scopes, and the policy's closure. The policy's closure `with`: ranged over so. A function that ranges over a function: what it answers. policy.Check: what it answers. -/
import Derived.Test.YtibgjojeppijfaaGreatDoorProg
import Derived.Test.YtibgjojeppijfaaGreatDoorV2
import Derived.WalkKit
import Derived.Shelf.RegionOpenPlain
import Derived.Lib.UnsafeStr
import Derived.Test.YtibgjojeppijfaaGreatDoorV3
import Derived.Maps.RangeRun
import Derived.LoopN
import Derived.Laws.IdiomRangeMap
import Derived.RangeFuncNested
import Derived.RangeFuncBound
import Derived.RangeFuncCalls
import Derived.RangeFuncLeaves
import Derived.TacticsInMore
import Derived.LoopNIn
set_option linter.unusedVariables false
namespace Go.Proofs
open Go.RowKit
set_option maxHeartbeats 2000000 in
set_option maxRecDepth 100000 in
theorem Tryz.builder_String (b g cap : Nat) (l : List UInt8) (us : Array Value) (cur : Array Value) (e e' : TypeId) (w : World) (hb : w.heap[b]? = some (.cells us e (0, 0))) (hu : us[1]? = some (.slice (some ⟨g, 0, none⟩) l.length cap)) (hg : w.heap[g]? = some (.cells cur e' (0, 0))) (he' : e' = 5)
    (h0 : l ≠ []) (hcap : l.length ≤ cap) (hm : cap ≤ maxLen) (hcs : cur.size = cap) (hcell : ∀ (j : Nat) (x : UInt8), l[j]? = some x → cur[j]? = some (Value.int .u8 x.toNat)) :
    Calls Tryz.prog 260 #[.pointer (some ⟨b, 0, none⟩)] w fun e w' => e = .returned (.string ⟨l.toArray⟩) ∧ w' = w.drew.freeze ⟨g, 0, none⟩ l.length := by
  subst he'
  have hl0 : l.length ≠ 0 := by simpa using h0
  have c1 : w.drew.cell? ⟨b, 1, none⟩ = some (.slice (some ⟨g, 0, none⟩) l.length cap) := by
    have : w.drew.heap[b]? = some (.cells us e (0, 0)) := hb
    simp [World.cell?, this, hu]
  have hSD : (Builtin.unsafeSliceData_ #[92] 310 #[.slice (some ⟨g, 0, none⟩) l.length cap]).run Tryz.prog w.drew = .ok (.pointer (some ⟨g, 0, none⟩)) w.drew :=
    Lib.run_unsafeSliceData_row _ _ _ _ _ _ (by omega)
  have hUS : (Builtin.unsafeString_ #[310, 3] 9 #[.pointer (some ⟨g, 0, none⟩), .int .i64 l.length]).run Tryz.prog w.drew = .ok (.string ⟨l.toArray⟩) (w.drew.freeze ⟨g, 0, none⟩ l.length) := by
    refine Lib.run_unsafeString_row w.drew 310 3 9 5 Tryz.underlying310 (by kernel_rfl) g cur.size (by have hg' : w.drew.heap[g]? = some (.cells cur 5 (0, 0)) := hg; simp [World.shape?, hg']) l h0 (by omega) (by unfold maxLen at hm; omega) ?_
    intro j x hx
    have hg' : w.drew.heap[g]? = some (.cells cur 5 (0, 0)) := hg
    rw [Go.Vx.add_none]
    simp [World.cell?, hg', hcell j x hx]
  have mixed : Tryz.prog.follows .mixedOrders = true := by kernel_rfl
  go_enter Tryz.func260, Tryz.ntmps260
  go_wp2
  go_region_o
  all_goals (go_wp2; go_ret; exact ⟨rfl, rfl⟩)
set_option maxHeartbeats 2000000 in
set_option maxRecDepth 100000 in
theorem Tryz.builder_String_nil (b : Nat) (us : Array Value) (e : TypeId) (w : World) (hb : w.heap[b]? = some (.cells us e (0, 0))) (hu : us[1]? = some (.slice none 0 0)) :
    Calls Tryz.prog 260 #[.pointer (some ⟨b, 0, none⟩)] w fun e w' => e = .returned (.string ⟨#[]⟩) ∧ w' = w.drew := by
  have c1 : w.drew.cell? ⟨b, 1, none⟩ = some (.slice none 0 0) := by
    have : w.drew.heap[b]? = some (.cells us e (0, 0)) := hb
    simp [World.cell?, this, hu]
  have hSD : (Builtin.unsafeSliceData_ #[92] 310 #[.slice none 0 0]).run Tryz.prog w.drew = .ok (.pointer none) w.drew := rfl
  have hUS : (Builtin.unsafeString_ #[310, 3] 9 #[.pointer none, .int .i64 0]).run Tryz.prog w.drew = .ok (.string ⟨#[]⟩) w.drew := Lib.run_unsafeString_none w.drew 310 3 9 none
  have mixed : Tryz.prog.follows .mixedOrders = true := by kernel_rfl
  go_enter Tryz.func260, Tryz.ntmps260
  go_wp2
  go_region_o
  all_goals (go_wp2; go_ret; exact ⟨rfl, rfl⟩)
end Go.Proofs
namespace Go.Vx
open Go Go.RowKit Go.Proofs
/-- The bytes that rows hold. -/
def bytesOf : List (List D) → Option (List UInt8)
  | [] => some []
  | [.m (.int .u8 z)] :: rs => match bytesOf rs with
    | some l => bif decide ((z.toNat.toUInt8.toNat : Int) = z) then some (z.toNat.toUInt8 :: l) else none
    | none => none
  | _ => none
theorem bytesOf_get : ∀ {rs : List (List D)} {l : List UInt8}, bytesOf rs = some l → l.length = rs.length ∧ ∀ (j : Nat) (x : UInt8), l[j]? = some x → rs[j]? = some [.m (.int .u8 x.toNat)]
  | [], l, h => by cases h; exact ⟨rfl, fun j x hx => by simp at hx⟩
  | r :: rs, l, h => by
    unfold bytesOf at h
    split at h
    · rename_i heq; cases heq
    · rename_i z rs' heq
      cases heq
      split at h
      case h_2 => cases h
      rename_i l' hl'
      cases hb : decide ((z.toNat.toUInt8.toNat : Int) = z) with
      | false => rw [hb] at h; cases h
      | true =>
        rw [hb] at h
        cases h
        obtain ⟨h1, h2⟩ := bytesOf_get hl'
        refine ⟨by simp [h1], fun j x hx => ?_⟩
        cases j with
        | zero =>
          simp at hx
          subst hx
          have := of_decide_eq_true hb
          simp only [List.getElem?_cons_zero]
          rw [this]
        | succ j => simpa using h2 j x (by simpa using hx)
    · cases h
theorem freeze_rest (w : World) (a : Addr) (n : Nat) : (w.freeze a n).heap.size = w.heap.size ∧ (w.freeze a n).os = w.os ∧ (w.freeze a n).tape = w.tape ∧ (w.freeze a n).output = w.output := by
  unfold World.freeze
  split
  · exact ⟨rfl, rfl, rfl, rfl⟩
  · exact ⟨by simp, rfl, rfl, rfl⟩
def bldO : Orc := fun f args objs => bif Nat.beq f 260 then (match args, objs with
  | [.c (.ptr (.out 0) 0)], [.box e [c0, .d .nl]] => some (.ret (.s ⟨#[]⟩), [.box e [c0, .d .nl]])
  | [.c (.ptr (.out 0) 0)], [.box e [c0, .tk (.out 1) sz rs], .tok e' sz' n] => match bytesOf rs with
    | some (b :: l) => if sz = 1 ∧ sz' = 1 ∧ n = rs.length ∧ e' = 5 then some (.ret (.s ⟨(b :: l).toArray⟩), [.box e [c0, .tk (.out 1) sz rs], .gone]) else none
    | _ => none
  | _, _ => none) else none
theorem freeze_heap {w : World} {g n : Nat} {cur : Array Value} {e : TypeId} (hg : w.heap[g]? = some (.cells cur e (0, 0))) (hn : n ≠ 0) : (w.freeze ⟨g, 0, none⟩ n).heap[g]? = some (.cells cur e (0, 0 + n)) ∧ ∀ k, k ≠ g → (w.freeze ⟨g, 0, none⟩ n).heap[k]? = w.heap[k]? := by
  unfold World.freeze
  rw [if_neg hn]
  refine ⟨?_, fun k hk => ?_⟩
  · simp [Array.getElem?_modify, hg]
  · simp [Array.getElem?_modify, Ne.symm hk]
theorem freeze_cell {w : World} {g n : Nat} {cur : Array Value} {e : TypeId} (hg : w.heap[g]? = some (.cells cur e (0, 0))) (hn : n ≠ 0) (b o : Nat) : (w.freeze ⟨g, 0, none⟩ n).cell? ⟨b, o, none⟩ = w.cell? ⟨b, o, none⟩ := by
  obtain ⟨h1, h2⟩ := freeze_heap hg hn
  by_cases e1 : b = g
  · subst e1
    simp [World.cell?, h1, hg]
  · exact World.cell?_of_block (h2 b e1)
set_option maxRecDepth 100000 in
theorem bldO_ok : OKo Tryz.prog bldO := by
  intro f args objs out objs' h w E us hr hv
  unfold bldO at h
  cases hk : Nat.beq f 260 with
  | false => rw [hk] at h; cases h
  | true =>
  rw [hk] at h
  have : f = 260 := Nat.eq_of_beq_eq_true hk
  subst this
  simp only [cond_true] at h
  have hname : (Tryz.f260.name == "runtime.NumGoroutine") = false := by kernel_rfl
  have harg : ∀ {l : List Ob}, objs = l → args = [.c (.ptr (.out 0) 0)] → us = [.pointer (some ⟨E.b (.out 0), 0, none⟩)] := by
    intro l _ ha
    subst ha
    obtain ⟨u, hu, hR⟩ := hv.2 0 _ rfl
    match us, hv.1, hu with
    | [v], _, hu => cases hu; rw [hR.1.2]
  split at h
  · rename_i e c0
    cases h
    obtain ⟨bs, hb1, hb2, hb3, _⟩ := hr.objs (.out 0) _ rfl
    obtain ⟨y, hy, _, hR⟩ := hb3 1 _ rfl
    obtain ⟨n, hn⟩ := hR
    have hyu : y = .slice none 0 0 := by cases n <;> exact hn
    subst hyu
    have hus := harg rfl rfl
    subst hus
    unfold Does
    rw [run_enter Tryz.func260 hname rfl]
    refine (Tryz.builder_String_nil _ bs e w hb1 hy).mono fun e' w' ⟨he, hw⟩ => ?_
    subst he hw
    have hle := drew_le (ob := obOf [.box e [c0, .d .nl]]) w E
    exact ⟨E, ⟨fun r o ho => Ro_keep hle rfl rfl (fun _ _ => rfl) (fun _ _ _ h => h) (hr.objs r o ho), hr.apart, hr.mine, hr.has, hr.low⟩, hle, ⟨rfl, rfl, rfl, Nat.le_refl _, fun _ _ _ => rfl⟩, Sn.refl E, ⟨⟨0, rfl, rfl⟩, fun _ => rfl⟩⟩
  · rename_i e c0 sz rs e' sz' n
    split at h
    case h_2 => cases h
    rename_i b0 l0 hl
    obtain ⟨l, hl'⟩ : ∃ l, l = b0 :: l0 := ⟨_, rfl⟩
    rw [← hl'] at h hl
    have h0 : l ≠ [] := by rw [hl']; simp
    split at h
    case isFalse => cases h
    rename_i hcond
    obtain ⟨rfl, rfl, rfl, rfl⟩ := hcond
    cases h
    obtain ⟨hll, hlb⟩ := bytesOf_get hl
    obtain ⟨bs, hb1, hb2, hb3, _⟩ := hr.objs (.out 0) _ rfl
    obtain ⟨y, hy, _, ⟨nn, hn⟩, _, hperm⟩ := hb3 1 _ rfl
    have hyu := (hperm _ _ _ rfl).2.2 rfl
    obtain ⟨g, cap, cur, hv1, hg, hcap, hm, hcs, hst⟩ := hr.objs (.out 1) _ rfl
    rw [hyu, hv1] at hn
    rw [hyu, hv1, ← hll] at hy
    have hcell : ∀ (j : Nat) (x : UInt8), l[j]? = some x → cur[j]? = some (Value.int .u8 x.toNat) := by
      intro j x hx
      have hn' := hn.up (show nn ≤ nn + 1 by omega)
      obtain ⟨A, c, hA, _, _, hc⟩ := hn'
      injection hA with hA _ _
      subst hA
      obtain ⟨b, o, v, hbo, _, hcl, hR⟩ := hc j _ (hlb j x hx) 0 _ rfl
      injection hbo with hbo
      injection hbo with e1 e2
      subst e1 e2
      have : v = .int .u8 x.toNat := by cases nn <;> exact hR.1
      subst this
      simpa [World.cell?, hg] using hcl
    have hus := harg rfl rfl
    subst hus
    unfold Does
    rw [run_enter Tryz.func260 hname rfl]
    refine (Tryz.builder_String _ g cap l bs cur e 5 w hb1 hy hg rfl h0 (by rw [hll]; exact hcap) hm (by rw [hcs, Nat.mul_one]) hcell).mono fun e' w' ⟨he, hw⟩ => ?_
    subst he
    have hl0 : l.length ≠ 0 := by simpa using h0
    have hg' : w.drew.heap[g]? = some (.cells cur 5 (0, 0)) := hg
    obtain ⟨hf1, hf2⟩ := freeze_heap hg' hl0
    have hcl := freeze_cell hg' hl0
    rw [← hw] at hf1 hf2 hcl
    obtain ⟨hsz, q2, q3, q4⟩ := freeze_rest w.drew ⟨g, 0, none⟩ l.length
    rw [← hw] at hsz q2 q3 q4
    have hsz : w'.heap.size = w.heap.size := hsz
    have q2 : w'.os = w.os := q2
    have q3 : w'.tape = w.tape := q3
    have q4 : w'.output = w.output := q4
    have hne : E.b (.out 0) ≠ g := by
      intro e1
      have := hr.apart (.out 0) (.out 1) _ _ g rfl rfl (by simp [blk, e1]) (by simp [blk, hv1, Value.ownBlock])
      cases this
    have hle : Le w E (obOf [.box e [c0, .tk (.out 1) 1 rs], .tok 5 1 rs.length]) w' E (obOf [.box e [c0, .tk (.out 1) 1 rs], .gone]) := by
      refine ⟨fun _ _ h => h, fun b o _ => hcl b o, fun r hl => ?_, fun _ _ => rfl, fun r e1 s1 n1 hl he => ?_⟩
      · obtain ⟨o, ho, hne⟩ := hl
        match r, ho with
        | .out 0, ho => exact ⟨_, rfl, by simp⟩
        | .out 1, ho => exact ⟨.gone, rfl, by simp⟩
      · match r, he with
        | .out 0, he => cases he
        | .out 1, he => cases he
    refine ⟨E, ⟨fun r o ho => ?_, fun r r' o o' k h1 h2 k1 k2 => ?_, fun r o k h1 k1 => ?_, fun b o h => by rw [hcl]; exact hr.has b o h, Nat.le_of_eq hsz.symm⟩, hle, ⟨q2, q3, q4, Nat.le_of_eq hsz.symm, fun k hk ho => hf2 k (fun e1 => ho ⟨1, _, rfl, by rw [e1]; simp [blk, hv1, Value.ownBlock]⟩)⟩, Sn.refl E, ⟨⟨0, rfl, rfl⟩, fun _ => rfl⟩⟩
    · match r, ho with
      | .out 0, ho =>
        cases ho
        exact Ro_keep hle rfl rfl (fun k hk => hf2 k (by cases hk; exact hne)) (fun _ _ _ h => h) (hr.objs (.out 0) _ rfl)
      | .out 1, ho => cases ho; trivial
    · match r, h1, r', h2 with
      | .out 0, _, .out 0, _ => rfl
      | .out 0, _, .out 1, h2 => cases h2; cases k2
      | .out 1, h1, _, _ => cases h1; cases k1
    · match r, h1 with
      | .out 0, h1 => cases h1; exact .inr ⟨0, _, rfl, k1⟩
      | .out 1, h1 => cases h1; cases k1
  · cases h
end Go.Vx
namespace Go.Vx
open Go Go.RowKit Go.Proofs
/-! Pieces of code. -/
def cL : Code → Code | .seq a _ => a | c => c
def cR : Code → Code | .seq _ b => b | c => c
def cB : Code → Code | .block _ c => c | .loop c => c | .scope c => c | c => c
def cO : Code → Array Oper | .region _ ops _ => ops | _ => #[]
def bodyOf (fn : Func) : Code := match fn.body with | some c => c | none => .skip
/-- Variables, but for some dead. -/
def tl (n : Nat) (l : List (Nat × V)) : List V := l.foldl (fun t p => t.set p.1 p.2) (List.replicate n (.c .dead))
section
variable {P : Program} {N N' : Nat} {outs outs' : Nat → Prop} {E E' : Env} {s s' : S} {a : Act} {w w' : World} {orc : Orc} {cf : Cfg} {ops : Array Oper} {o : Oper} {i : Nat} {is : List Nat}
theorem wpOp_val {Q : Exit → Act → World → Prop} {K : Act → World → Prop} (ho : ops[i]? = some o) (hg : o.guard = none) {u : Value} (hrun : (execOp a.eval o).run P w = .ok (.value u) w') (hK : K (a.put o.dst u) w') : wpOp P ops Q i K a w := by
  unfold wpOp
  rw [ho]
  simp only [Region.wanted, hg, if_true]
  left
  unfold Oper.wp
  rw [hrun]
  exact hK
theorem runL_go {v : V} {wr : List (Ref × Ob)} {new : List Ob} (ho : ops[i]? = some o) (ha : actO cf orc ops o s.t s.ev s.get s.l.length = some (.go v wr new)) :
    runL cf orc ops (i :: is) s = runL cf orc ops is ((s.wrote wr new).put o.dst v) := by
  simp only [runL, ho, ha]
theorem act_mapUpdate {t kt et : TypeId} {x j y : Operand} {r : Ref} {kv : Value} {c : C} {es es' : List (Value × C)} {base : Nat} (hg : o.guard = none) (hop : o.op = .mapUpdate t x j y) (hk : kdOf cf.ti t = some (.map kt et)) (hx : s.ev x = some (.c (.mp r)))
    (hi : (s.ev j).bind keyV = some kv) (hy : s.ev y = some (.c c)) (hget : s.get r = some (.map es)) (hko : (keyOk cf.ti kt kv && c.alive) = true) (hp : putK kv c es = some es') :
    actO cf orc ops o s.t s.ev s.get base = some (.go (.c .dead) [(r, .map es')] []) := by
  unfold actO
  have hw : wantB ops s.t o = some true := by unfold wantB; rw [hg]
  rw [hw]
  simp only [hop, dfrO, eff, hk, hx, hi, hy, hget, hko, if_true, hp, Option.map_some]
/-- The same, seen from where it stands. -/
def ownAt (E : Env) (ob : Ref → Option Ob) (k : Nat) : Prop := ∃ r o, ob r = some o ∧ blk E r o = some k
theorem Rel.rebase (h : Rel N outs E s a w) : Rel w.heap.size (ownAt E s.get) E s a w :=
  ⟨h.tmps, h.size, h.objs, h.apart, fun r o k h1 h2 => .inr ⟨r, o, h1, h2⟩, h.has, h.defers, Nat.le_refl _⟩
theorem ownAt_sub (h : Rel N outs E s a w) {k : Nat} (hk : ownAt E s.get k) : N ≤ k ∨ outs k := by
  obtain ⟨r, o, h1, h2⟩ := hk
  exact h.mine r o k h1 h2
theorem Rel.back (h : Rel N outs E s a w) (hs : w.heap.size ≤ w'.heap.size) {a' : Act} (hk' : Rel w.heap.size (ownAt E s.get) E' s' a' w') : Rel N outs E' s' a' w' :=
  ⟨hk'.tmps, hk'.size, hk'.objs, hk'.apart, fun r o k h1 h2 => by
    rcases hk'.mine r o k h1 h2 with h3 | h3
    · exact .inl (Nat.le_trans h.low h3)
    · exact ownAt_sub h h3, hk'.has, hk'.defers, Nat.le_trans h.low hs⟩
theorem Fr.back (h : Rel N outs E s a w) {w2 : World} (hf : Fr w.heap.size (ownAt E s.get) w w2) : Fr N outs w w2 :=
  ⟨hf.os, hf.tape, hf.output, hf.size, fun k hk ho => hf.block k (by have := h.low; omega) (fun hw => by
    rcases ownAt_sub h hw with h1 | h1
    · omega
    · exact ho h1)⟩
theorem Sn.back (h : Rel N outs E s a w) (hs : Sn w.heap.size (ownAt E s.get) E E') : Sn N outs E E' := fun b x hx => by
  rcases hs b x hx with h1 | h1 | h1
  · exact .inl h1
  · exact .inr (.inl (Nat.le_trans h.low h1))
  · exact .inr (ownAt_sub h h1)
/-- What lies beside stays. -/
theorem Rel.beside (h : Rel N outs E s a w) (hs : w.heap.size ≤ w'.heap.size) (hb : ∀ k, (ownAt E s.get k ∨ ∃ x, E.st k x) → w'.heap[k]? = w.heap[k]?) : Rel N outs E s a w' ∧ Le w E s.get w' E s.get := by
  have hle : Le w E s.get w' E s.get := ⟨fun _ _ h => h, fun b x hx => World.cell?_of_block (hb b (.inr ⟨x, hx⟩)), fun _ h => h, fun _ _ => rfl, fun r e sz n _ h => ⟨n, h, Nat.le_refl _, fun _ => rfl⟩⟩
  refine ⟨⟨fun i v hi => ?_, h.size, fun r o ho => Ro_keep hle rfl rfl (fun k hk => hb k (.inl ⟨r, o, ho, hk⟩)) (fun _ _ _ h => h) (h.objs r o ho), h.apart, h.mine, fun b x hx => by rw [hle.cell b x hx]; exact h.has b x hx, h.defers.le hle, Nat.le_trans h.low hs⟩, hle⟩
  obtain ⟨u, hu, hR⟩ := h.tmps i v hi
  exact ⟨u, hu, hR.le hle⟩
end
end Go.Vx
namespace Go.Vx.Tz
open Go Go.Vx Go.Proofs
noncomputable def bq : Code := bodyOf Tryz.f204
noncomputable def R0 : Code := cL bq
noncomputable def R1 : Code := cL (cR bq)
noncomputable def R2 : Code := cL (cL (cR (cR bq)))
noncomputable def LB : Code := cB (cB (cR (cL (cR (cR bq)))))
noncomputable def R3 : Code := cL LB
noncomputable def R4 : Code := cL (cB (cR (cR LB)))
noncomputable def RB : Code := cR (cB (cR (cR LB)))
noncomputable def R7 : Code := match cR (cR RB) with | .cond _ x _ => x | c => c
noncomputable def RS : Code := cR (cR (cR bq))
theorem bq_eq : bq = .seq R0 (.seq R1 (.seq (.seq R2 (.block 0 (.loop (.seq R3 (.seq (.cond (.tmp 17) .skip (.exit 0)) (.block 1 (.seq R4 RB)))))) ) RS)) := by kernel_rfl
theorem RB_eq : RB = .seq (cL RB) (.seq (cL (cR RB)) (.cond (.tmp 25) R7 .skip)) := by kernel_rfl
theorem R7_eq : R7 = .region 7 (cO R7) false := by kernel_rfl
def keyB : Nat → Int | 0 => 34 | 1 => 92 | 2 => 47 | 3 => 98 | 4 => 102 | 5 => 110 | 6 => 114 | _ => 116
def valB : Nat → Int | 0 => 34 | 1 => 92 | 2 => 47 | 3 => 8 | 4 => 12 | 5 => 10 | 6 => 13 | _ => 9
def valS : Nat → ByteArray | 0 => ⟨#[34]⟩ | 1 => ⟨#[92]⟩ | 2 => ⟨#[47]⟩ | 3 => ⟨#[8]⟩ | 4 => ⟨#[12]⟩ | 5 => ⟨#[10]⟩ | 6 => ⟨#[13]⟩ | _ => ⟨#[9]⟩
def keyS : Nat → ByteArray | 0 => ⟨#[92, 34]⟩ | 1 => ⟨#[92, 92]⟩ | 2 => ⟨#[92, 47]⟩ | 3 => ⟨#[92, 98]⟩ | 4 => ⟨#[92, 102]⟩ | 5 => ⟨#[92, 110]⟩ | 6 => ⟨#[92, 114]⟩ | _ => ⟨#[92, 116]⟩
def entC (i : Nat) : List (Value × C) := bif Nat.beq i 2 then [] else [(.int .i32 (valB i), .d (.m (.string (keyS i))))]
def sH (it : Nat) (b : ByteArray) (es : List (Value × C)) : S := ⟨tl 63 [(0, .s b), (2, .s ⟨#[]⟩), (3, .c (.mp (.loc 0))), (15, .m (.pointer (some ⟨it, 0, none⟩)))], [.map es, .gone], [], []⟩
def kV (i : Nat) : V := .m (.int .u8 (keyB i))
def vV (i : Nat) : V := .s (valS i)
def sE (it : Nat) (b : ByteArray) (es : List (Value × C)) (i : Nat) : S := (((((((sH it b es).put (some 16) (.c .dead)).put (some 17) (.b true)).put (some 18) (.c .dead)).put (some 19) (kV i)).put (some 20) (vV i)).put (some 4) (kV i)).put (some 5) (vV i)
def t0 : List V := tl 63 [(0, .b true), (2, .b true), (3, .b true), (15, .b true)]
def s6 (it : Nat) (b : ByteArray) (es : List (Value × C)) (i : Nat) : S := ((((((sE it b es i).put (some 21) (vV i)).put (some 22) (.m (.int .u8 (valB i)))).put (some 23) (.m (.int .i32 (valB i)))).put (some 6) (.m (.int .i32 (valB i)))).put (some 24) (.m (.int .i32 (valB i)))).put (some 25) (.b (!decide (i = 2)))
def s7 (it : Nat) (b : ByteArray) (es : List (Value × C)) (i : Nat) : S := (((((s6 it b es i).put (some 26) (.c (.mp (.loc 0)))).put (some 27) (.m (.int .i32 (valB i)))).put (some 28) (kV i)).put (some 29) (.m (.int .i32 (keyB i)))).put (some 30) (.s ((keyS i).extract 1 2)) |>.put (some 31) (.s (keyS i))
noncomputable def oN : Orc := fun _ _ _ => none
theorem putK_app {k : Value} {y : C} : ∀ {es : List (Value × C)}, (∀ p ∈ es, sameK k p.1 = some false) → putK k y es = some (es ++ [(k, y)])
  | [], _ => rfl
  | p :: es, h => by
    simp only [putK, h p (.head _), putK_app fun q hq => h q (.tail _ hq)]
    rfl
set_option maxRecDepth 100000 in
theorem RB_exec (it : Nat) (b : ByteArray) (es : List (Value × C)) (i : Nat) (hi : i < 8) (hes : ∀ p ∈ es, sameK (.int .i32 (valB i)) p.1 = some false) :
    ∃ s', exec cf oN 10 RB (sE it b es i) = some (.nx s') ∧ ({ s' with t := scrub t0 s'.t } : S) = sH it b (es ++ entC i) ∧ s'.o = [] := by
  by_cases h2 : i = 2
  · subst h2
    refine ⟨s6 it b es 2, by kernel_rfl, ?_, rfl⟩
    show _ = sH it b (es ++ [])
    rw [List.append_nil]
    kernel_rfl
  · have hent : entC i = [(.int .i32 (valB i), .d (.m (.string (keyS i))))] := by
      unfold entC
      cases hb : Nat.beq i 2 with
      | true => exact absurd (Nat.eq_of_beq_eq_true hb) h2
      | false => rfl
    have hput := putK_app (y := .d (.m (.string (keyS i)))) hes
    have key : ∀ j, j < 8 → j ≠ 2 → exec cf oN 10 RB (sE it b es j) = Res.of (runL cf oN (cO R7) [6] (s7 it b es j)) ∧ (∃ o, (cO R7)[6]? = some o ∧ o.dst = none ∧ (∀ es', putK (.int .i32 (valB j)) (.d (.m (.string (keyS j)))) es = some es' → actO cf oN (cO R7) o (s7 it b es j).t (s7 it b es j).ev (s7 it b es j).get (s7 it b es j).l.length = some (.go (.c .dead) [(.loc 0, .map es')] []))) ∧
        ∀ es', ({ ((s7 it b es j).wrote [(.loc 0, .map es')] []).put none (.c .dead) with t := scrub t0 (((s7 it b es j).wrote [(.loc 0, .map es')] []).put none (.c .dead)).t } : S) = sH it b es' := by
      intro j hj hj2
      have hc : j = 0 ∨ j = 1 ∨ j = 3 ∨ j = 4 ∨ j = 5 ∨ j = 6 ∨ j = 7 := by omega
      have ho : ∃ o, (cO R7)[6]? = some o ∧ o.dst = none ∧ o.guard = none ∧ o.op = .mapUpdate 275 (.tmp 26) (.tmp 27) (.tmp 31) := ⟨_, rfl, rfl, rfl, rfl⟩
      obtain ⟨o, ho, hod, hog, hoo⟩ := ho
      rcases hc with rfl | rfl | rfl | rfl | rfl | rfl | rfl
      all_goals refine ⟨by kernel_rfl, ⟨o, ho, hod, fun es' hp => act_mapUpdate (kt := 21) (et := 9) (r := .loc 0) hog hoo (by kernel_rfl) (by kernel_rfl) (by kernel_rfl) (by kernel_rfl) (by kernel_rfl) (by kernel_rfl) hp⟩, fun es' => by kernel_rfl⟩
    obtain ⟨h1, ⟨o, ho, hd, ha⟩, h3⟩ := key i hi h2
    rw [h1, runL_go ho (ha _ hput), hd]
    refine ⟨_, rfl, ?_, rfl⟩
    rw [hent]
    exact h3 _
theorem run_nextOp {P : Program} {o : Oper} {a : Act} {w w' : World} {x : Operand} {b : Bool} {u : Value} (ho : o.op = .next x b) (h : (Instr.next (a.eval x) b o.type).run P w = .ok u w') : (execOp a.eval o).run P w = .ok (.value u) w' := by
  obtain ⟨dst, op', type, pos, after, guard⟩ := o
  cases ho
  simp only [] at h
  simp [execOp, h]
theorem run_entryOp {P : Program} {o : Oper} {a : Act} {w w' : World} {x : Operand} {u : Value} (ho : o.op = .entry x) (h : (Instr.entry (a.eval x)).run P w = .ok u w') : (execOp a.eval o).run P w = .ok (.value u) w' := by
  obtain ⟨dst, op', type, pos, after, guard⟩ := o
  cases ho
  simp [execOp, h]
theorem run_extractOp {P : Program} {o : Oper} {a : Act} {w : World} {x : Operand} {i : Nat} {us : Array Value} {u : Value} (ho : o.op = .extract x i) (hx : a.eval x = .tuple us) (hu : us[i]? = some u) : (execOp a.eval o).run P w = .ok (.value u) w := by
  obtain ⟨dst, op', type, pos, after, guard⟩ := o
  cases ho
  simp [execOp, hx, Instr.extract, hu]
theorem run_assignOp {P : Program} {o : Oper} {a : Act} {w : World} {x : Operand} (ho : o.op = .assign x) : (execOp a.eval o).run P w = .ok (.value (a.eval x)) w := by
  obtain ⟨dst, op', type, pos, after, guard⟩ := o
  cases ho
  simp [execOp]
theorem eval_put_self {a : Act} {d : Nat} {u : Value} (h : d < a.tmps.size) : (a.put (some d) u).eval (.tmp d) = u := by
  simp [Act.eval, Act.put, h]
theorem eval_put_ne {a : Act} {d e : Nat} {u : Value} (h : d ≠ e) : (a.put (some d) u).eval (.tmp e) = a.eval (.tmp e) := Act.eval_put (fun d' hd => by cases hd; simp [Ne.symm h])
theorem put_size (a : Act) (d : Option Tmp) (u : Value) : (a.put d u).tmps.size = a.tmps.size := by cases d <;> simp [Act.put]
/-- The entries of the map of escapes. -/
def EscAt (ents : Array MapEntry) : Prop := ents.size = 8 ∧ ∀ i, i < 8 → ∃ en, ents[i]? = some en ∧ en.key = .int .u8 (keyB i) ∧ en.val = .string (valS i) ∧ en.born = i
structure JQ (N : Nat) (outs : Nat → Prop) (E0 : Env) (w0 : World) (bm it : Nat) (ents : Array MapEntry) (b : ByteArray) (vis : List Nat) (a : Act) (w : World) : Prop where
  ex : ∃ E seen c0, Rel N outs E (sH it b (vis.flatMap entC)) a w ∧ Fr N outs w0 w ∧ Sn N outs E0 E ∧ LeO w0 E0 [] w E [] ∧ w.heap[bm]? = some (.map ents 8) ∧ w.heap[it]? = some (.mapIter (some bm) 8 seen c0) ∧ 8 ≤ c0 ∧
    (∀ i, i < 8 → (seen.contains i = true ↔ i ∈ vis)) ∧ ¬ ownAt E (sH it b (vis.flatMap entC)).get bm ∧ ¬ ownAt E (sH it b (vis.flatMap entC)).get it
  nd : vis.Nodup
  lt : ∀ i ∈ vis, i < 8
noncomputable def LC : Code := .seq R3 (.seq (.cond (.tmp 17) .skip (.exit 0)) (.block 1 (.seq R4 RB)))
theorem R3_eq : R3 = .region 3 (cO R3) false := by kernel_rfl
theorem R4_eq : R4 = .region 4 (cO R4) false := by kernel_rfl
theorem R3_rng : List.range (cO R3).size = [0, 1] := by kernel_rfl
theorem R4_rng : List.range (cO R4).size = [0, 1, 2, 3, 4] := by kernel_rfl
theorem R3_0 : ∃ o, (cO R3)[0]? = some o ∧ o.dst = some 16 ∧ o.guard = none ∧ o.op = .next (.tmp 15) false := ⟨_, rfl, rfl, rfl, rfl⟩
theorem R3_1 : ∃ o, (cO R3)[1]? = some o ∧ o.dst = some 17 ∧ o.guard = none ∧ o.op = .extract (.tmp 16) 0 := ⟨_, rfl, rfl, rfl, rfl⟩
theorem R4_0 : ∃ o, (cO R4)[0]? = some o ∧ o.dst = some 18 ∧ o.guard = none ∧ o.op = .entry (.tmp 15) := ⟨_, rfl, rfl, rfl, rfl⟩
theorem R4_1 : ∃ o, (cO R4)[1]? = some o ∧ o.dst = some 19 ∧ o.guard = none ∧ o.op = .extract (.tmp 18) 0 := ⟨_, rfl, rfl, rfl, rfl⟩
theorem R4_2 : ∃ o, (cO R4)[2]? = some o ∧ o.dst = some 20 ∧ o.guard = none ∧ o.op = .extract (.tmp 18) 1 := ⟨_, rfl, rfl, rfl, rfl⟩
theorem R4_3 : ∃ o, (cO R4)[3]? = some o ∧ o.dst = some 4 ∧ o.guard = none ∧ o.op = .assign (.tmp 19) := ⟨_, rfl, rfl, rfl, rfl⟩
theorem R4_4 : ∃ o, (cO R4)[4]? = some o ∧ o.dst = some 5 ∧ o.guard = none ∧ o.op = .assign (.tmp 20) := ⟨_, rfl, rfl, rfl, rfl⟩
theorem wpOps_nil {P : Program} {ops : Array Oper} {Q : Exit → Act → World → Prop} {a : Act} {w : World} (h : Q .normal a w) : wpOps P ops Q [] a w := by
  simpa [wpOps] using h
theorem dead_R {w : World} {E : Env} {ob : Ref → Option Ob} (u : Value) : Rv w E ob (.c .dead) u := ⟨trivial, fun h => absurd rfl h⟩
theorem m_R {w : World} {E : Env} {ob : Ref → Option Ob} {u : Value} (h : u.oneCell' = true) : Rv w E ob (.m u) u := ⟨⟨0, rfl, h⟩, fun _ => h⟩
theorem sH_len (it : Nat) (b : ByteArray) (es : List (Value × C)) : (sH it b es).t.length = 63 := by kernel_rfl
theorem round_ok {N : Nat} {outs : Nat → Prop} {E0 : Env} {w0 : World} {bm it : Nat} {ents : Array MapEntry} {b : ByteArray} {vis : List Nat} {a : Act} {w : World} (hNit : N ≤ it) (hesc : EscAt ents) (hj : JQ N outs E0 w0 bm it ents b vis a w) {next : Act → World → Prop} {Q : Exit → Act → World → Prop}
    (hK : ∀ i a' w', i < 8 → i ∉ vis → JQ N outs E0 w0 bm it ents b (vis ++ [i]) a' w' → next a' w')
    (hF : (∀ i, i < 8 → i ∈ vis) → ∀ E a' w', Rel N outs E (sH it b (vis.flatMap entC)) a' w' → Fr N outs w0 w' → Sn N outs E0 E → LeO w0 E0 [] w' E [] → Q .normal a' w') :
    LC.wp Tryz.prog (Exit.then next (Exit.inBlock 0 Q)) a w := by
  obtain ⟨⟨E, seen, c0, hrel, hfr, hsn, hlo, hbm, hit, hc0, hseen, hnb, hni⟩, hnd, hlt⟩ := hj
  obtain ⟨hesz, hents⟩ := hesc
  have hsz : a.tmps.size = 63 := by rw [← hrel.size]; exact sH_len _ _ _
  have hev15 : a.eval (.tmp 15) = .pointer (some ⟨it, 0, none⟩) := (ev_m hrel (x := .tmp 15) (by kernel_rfl)).1
  have hold : ∀ x ∈ ents.toList, x.born < 8 := by
    intro x hx
    obtain ⟨j, hj⟩ := List.mem_iff_getElem?.1 hx
    have hj8 : j < 8 := by rw [← hesz]; simpa using (List.getElem?_eq_some_iff.1 hj).1
    obtain ⟨en, h1, _, _, h4⟩ := hents j hj8
    have : ents[j]? = some x := by simpa using hj
    rw [h1] at this
    cases this
    omega
  obtain ⟨o0, ho0, hd0, hg0, hop0⟩ := R3_0
  obtain ⟨o1, ho1, hd1, hg1, hop1⟩ := R3_1
  unfold LC
  refine wp_seq ?_
  rw [R3_eq]
  refine wp_region ?_
  rw [R3_rng, wpOps_cons]
  rcases run_next_at (P := Tryz.prog) w o0.type it bm 8 c0 seen ents 8 hit hbm hold hc0 with ⟨hl0, hrun⟩ | ⟨e, he, w1, hw1, hrun⟩
  · refine wpOp_val ho0 hg0 (run_nextOp hop0 (by rw [hev15]; exact hrun)) ?_
    rw [wpOps_cons, hd0]
    refine wpOp_val (u := .bool false) ho1 hg1 (run_extractOp hop1 (eval_put_self (by omega)) rfl) ?_
    rw [hd1]
    refine wpOps_nil ?_
    have hr2 : Rel N outs E (sH it b (vis.flatMap entC)) ((a.put (some 16) (.tuple #[.bool false])).put (some 17) (.bool false)) w := by
      have := rel_put (rel_put hrel (dead_R (.tuple #[.bool false])) (some 16)) (v := .c .dead) (u := .bool false) (dead_R _) (some 17)
      have e1 : ((sH it b (vis.flatMap entC)).put (some 16) (.c .dead)).put (some 17) (.c .dead) = sH it b (vis.flatMap entC) := by kernel_rfl
      rw [e1] at this
      exact this
    refine wp_seq (wp_cond (t := false) (eval_put_self (by rw [put_size]; omega)) (wp_exit ?_))
    refine hF (fun i hi => ?_) E _ w hr2 hfr hsn hlo
    obtain ⟨en, h1, _, _, h4⟩ := hents i hi
    have := all_seen ents seen hl0 en (by rw [List.mem_iff_getElem?]; exact ⟨i, by simpa using h1⟩)
    rw [h4] at this
    exact (hseen i hi).1 this
  · -- one that is left
    obtain ⟨hmem, hns⟩ := mem_left he
    obtain ⟨i, hi⟩ := List.mem_iff_getElem?.1 hmem
    have hi8 : i < 8 := by rw [← hesz]; simpa using (List.getElem?_eq_some_iff.1 hi).1
    obtain ⟨en, h1, hkey, hval, hborn⟩ := hents i hi8
    have hee : en = e := by
      have : ents[i]? = some e := by simpa using hi
      rw [h1] at this
      exact Option.some.inj this
    subst hee
    rw [hborn] at hns
    have hiv : i ∉ vis := fun h => by rw [(hseen i hi8).2 h] at hns; cases hns
    have hw1h : w1.heap = w.heap := by rcases hw1 with rfl | rfl <;> rfl
    obtain ⟨w2, hw2⟩ : ∃ w2, w2 = ChangeMaps.setBlock w1 it (.mapIter (some bm) 8 (seen.push en.born) 8) := ⟨_, rfl⟩
    rw [← hw2] at hrun
    have hitl : it < w.heap.size := (Array.getElem?_eq_some_iff.1 hit).1
    have hbml : bm < w.heap.size := (Array.getElem?_eq_some_iff.1 hbm).1
    have hne : it ≠ bm := fun e => by rw [e, hbm] at hit; cases hit
    have h2it : w2.heap[it]? = some (.mapIter (some bm) 8 (seen.push i) 8) := by rw [hw2]; simp [ChangeMaps.setBlock, hw1h, hitl, hborn]
    have h2o : ∀ k, k ≠ it → w2.heap[k]? = w.heap[k]? := fun k hk => by rw [hw2]; simp [ChangeMaps.setBlock, hw1h, Array.getElem?_setIfInBounds_ne (Ne.symm hk)]
    have h2s : w2.heap.size = w.heap.size := by rw [hw2]; simp [ChangeMaps.setBlock, hw1h]
    have hst : ∀ x, ¬ E.st it x := fun x hx => by
      have := hrel.has _ _ hx
      simp [World.cell?, hit] at this
    obtain ⟨hrel2, hle2⟩ := hrel.beside (w' := w2) (by omega) (fun k hk => h2o k (fun e => by
      subst e
      rcases hk with h | ⟨x, hx⟩
      · exact hni h
      · exact hst x hx))
    have hfr2 : Fr N outs w0 w2 := hfr.trans ⟨by rw [hw2]; rcases hw1 with rfl | rfl <;> rfl, by rw [hw2]; rcases hw1 with rfl | rfl <;> rfl, by rw [hw2]; rcases hw1 with rfl | rfl <;> rfl, by omega, fun k hk ho => h2o k (fun e => by omega)⟩
    refine wpOp_val ho0 hg0 (run_nextOp hop0 (by rw [hev15]; exact hrun)) ?_
    rw [wpOps_cons, hd0]
    refine wpOp_val (u := .bool true) ho1 hg1 (run_extractOp hop1 (eval_put_self (by omega)) rfl) ?_
    rw [hd1]
    refine wpOps_nil ?_
    obtain ⟨tv, htv⟩ : ∃ tv, tv = Value.tuple #[.bool true, en.key, en.val] := ⟨_, rfl⟩
    rw [← htv]
    have hr3 := rel_put (rel_put hrel2 (dead_R tv) (some 16)) (v := .b true) (u := .bool true) (m_R rfl) (some 17)
    refine wp_seq (wp_cond (t := true) (eval_put_self (by rw [put_size]; omega)) (wp_skip ?_))
    refine wp_block (wp_seq ?_)
    obtain ⟨p0, hp0, hpd0, hpg0, hpo0⟩ := R4_0
    obtain ⟨p1, hp1, hpd1, hpg1, hpo1⟩ := R4_1
    obtain ⟨p2, hp2, hpd2, hpg2, hpo2⟩ := R4_2
    obtain ⟨p3, hp3, hpd3, hpg3, hpo3⟩ := R4_3
    obtain ⟨p4, hp4, hpd4, hpg4, hpo4⟩ := R4_4
    rw [R4_eq]
    refine wp_region ?_
    rw [R4_rng, wpOps_cons]
    have hev15' : ((a.put (some 16) tv).put (some 17) (.bool true)).eval (.tmp 15) = .pointer (some ⟨it, 0, none⟩) := by
      rw [eval_put_ne (by decide), eval_put_ne (by decide)]; exact hev15
    have hnd8 : (ents.toList.map (·.born)).Nodup := by
      have : ents.toList.map (·.born) = List.range 8 := by
        apply List.ext_getElem?
        intro j
        rw [List.getElem?_map]
        rcases Nat.lt_or_ge j 8 with hj | hj
        · obtain ⟨ej, h1, _, _, h4⟩ := hents j hj
          rw [show ents.toList[j]? = some ej by simpa using h1, List.getElem?_range hj]
          simp [h4]
        · rw [List.getElem?_eq_none (by simp [hesz]; exact hj), List.getElem?_eq_none (by simpa using hj)]
          rfl
      rw [this]
      exact List.nodup_range
    have hent := run_entry_at (P := Tryz.prog) w2 it bm 8 seen ents 8 en (by rw [hborn]; exact h2it) (by rw [h2o bm (Ne.symm hne)]; exact hbm) hmem hnd8
    refine wpOp_val hp0 hpg0 (run_entryOp hpo0 (by rw [hev15']; exact hent)) ?_
    rw [wpOps_cons, hpd0]
    refine wpOp_val (u := en.key) hp1 hpg1 (run_extractOp hpo1 (eval_put_self (by rw [put_size, put_size]; omega)) rfl) ?_
    rw [wpOps_cons, hpd1]
    refine wpOp_val (u := en.val) hp2 hpg2 (run_extractOp hpo2 (by rw [eval_put_ne (by decide)]; exact eval_put_self (by rw [put_size, put_size]; omega)) rfl) ?_
    rw [wpOps_cons, hpd2]
    refine wpOp_val hp3 hpg3 (run_assignOp hpo3) ?_
    rw [wpOps_cons, hpd3]
    refine wpOp_val hp4 hpg4 (run_assignOp hpo4) ?_
    rw [hpd4]
    refine wpOps_nil ?_
    obtain ⟨tv2, htv2⟩ : ∃ tv, tv = Value.tuple #[en.key, en.val] := ⟨_, rfl⟩
    rw [← htv2]
    obtain ⟨a2, ha2⟩ : ∃ a2, a2 = (a.put (some 16) tv).put (some 17) (.bool true) := ⟨_, rfl⟩
    rw [← ha2] at hr3 ⊢
    have hsz2 : a2.tmps.size = 63 := by rw [ha2, put_size, put_size]; exact hsz
    have e19 : ((((a2.put (some 18) tv2).put (some 19) en.key).put (some 20) en.val)).eval (.tmp 19) = en.key := by
      rw [eval_put_ne (by decide)]; exact eval_put_self (by rw [put_size]; omega)
    have e20 : (((((a2.put (some 18) tv2).put (some 19) en.key).put (some 20) en.val)).put (some 4) en.key).eval (.tmp 20) = en.val := by
      rw [eval_put_ne (by decide)]; exact eval_put_self (by rw [put_size, put_size]; omega)
    rw [e19, e20]
    have hkR : ∀ {w : World} {E : Env} {ob : Ref → Option Ob}, Rv w E ob (kV i) en.key := by intro w E ob; rw [hkey]; exact m_R rfl
    have hvR : ∀ {w : World} {E : Env} {ob : Ref → Option Ob}, Rv w E ob (vV i) en.val := by intro w E ob; rw [hval]; exact m_R rfl
    have hr5 := rel_put (rel_put (rel_put (rel_put (rel_put hr3 (dead_R tv2) (some 18)) hkR (some 19)) hvR (some 20)) hkR (some 4)) hvR (some 5)
    obtain ⟨a5, ha5⟩ : ∃ a5, a5 = (((((a2.put (some 18) tv2).put (some 19) en.key).put (some 20) en.val)).put (some 4) en.key).put (some 5) en.val := ⟨_, rfl⟩
    rw [← ha5] at hr5 ⊢
    have hr5' : Rel N outs E (sE it b (vis.flatMap entC) i) a5 w2 := hr5
    have hes : ∀ p ∈ vis.flatMap entC, sameK (.int .i32 (valB i)) p.1 = some false := by
      intro p hp
      obtain ⟨j, hjv, hpj⟩ := List.mem_flatMap.1 hp
      have hj8 := hlt j hjv
      have hij : i ≠ j := fun e => hiv (e ▸ hjv)
      unfold entC at hpj
      cases hb : Nat.beq j 2 with
      | true => rw [hb] at hpj; cases hpj
      | false =>
        rw [hb] at hpj
        have : p = (.int .i32 (valB j), .d (.m (.string (keyS j)))) := by simpa using hpj
        rw [this]
        have hv : valB i ≠ valB j := by
          have h1 : i = 0 ∨ i = 1 ∨ i = 2 ∨ i = 3 ∨ i = 4 ∨ i = 5 ∨ i = 6 ∨ i = 7 := by omega
          have h2 : j = 0 ∨ j = 1 ∨ j = 2 ∨ j = 3 ∨ j = 4 ∨ j = 5 ∨ j = 6 ∨ j = 7 := by omega
          rcases h1 with rfl | rfl | rfl | rfl | rfl | rfl | rfl | rfl <;> rcases h2 with rfl | rfl | rfl | rfl | rfl | rfl | rfl | rfl <;> first | exact absurd rfl hij | decide
        simp [sameK, hv]
    obtain ⟨s', hx, hs', hso⟩ := RB_exec it b (vis.flatMap entC) i hi8 hes
    have hgeq : (sE it b (vis.flatMap entC) i).get = (sH it b (vis.flatMap entC)).get := by
      unfold sE; simp only [put_get]
    have hreb := hr5'.rebase
    have hcode : codeOk RB = true := by kernel_rfl
    refine exec_wp (cf := cf) good.ti rfl none_ok (drawn_ok good.ti rfl good.mixed none_ok) 10 hcode hx hreb (fun E3 a3 w3 k1 k2 k3 k4 => ?_)
    have hk1 := rel_scrub k1 t0
    rw [hs'] at hk1
    have hbnd : (∀ k, ownAt E3 (sH it b (vis.flatMap entC ++ entC i)).get k → w2.heap.size ≤ k ∨ ownAt E (sE it b (vis.flatMap entC) i).get k) := fun k ⟨r, o, h1, h2⟩ => hk1.mine r o k h1 h2
    refine hK i a3 w3 hi8 hiv ⟨⟨E3, seen.push i, 8, ?_, hfr2.trans (Fr.back hr5' k2), hsn.trans (Sn.back hr5' k3), Le.trans (Le.trans hlo (Le.toO hle2)) (hso ▸ k4), ?_, ?_, Nat.le_refl _, fun j hj => ?_, ?_, ?_⟩, ?_, fun j hj => ?_⟩
    · rw [List.flatMap_append]
      have : ([i].flatMap entC) = entC i := by simp
      rw [this]
      exact Rel.back hr5' k2.size hk1
    · rw [k2.block bm (by omega) (fun h => hnb (by rw [hgeq] at h; exact h)), h2o bm (Ne.symm hne)]; exact hbm
    · rw [k2.block it (by omega) (fun h => hni (by rw [hgeq] at h; exact h))]; exact h2it
    · rw [contains_push, Bool.or_eq_true, hseen j hj, beq_iff_eq]
      simp
    · rw [List.flatMap_append, show ([i].flatMap entC) = entC i by simp]
      intro h
      rcases hbnd bm h with h | h
      · omega
      · rw [hgeq] at h; exact hnb h
    · rw [List.flatMap_append, show ([i].flatMap entC) = entC i by simp]
      intro h
      rcases hbnd it h with h | h
      · omega
      · rw [hgeq] at h; exact hni h
    · rw [List.nodup_append]
      refine ⟨hnd, by simp, fun x hxv y hyv e => ?_⟩
      simp at hyv
      exact hiv (by rw [← hyv, ← e]; exact hxv)
    · rcases List.mem_append.1 hj with h | h
      · exact hlt j h
      · simp at h; omega
end Go.Vx.Tz
namespace Go.Vx
open Go Go.RowKit Go.Proofs
section
variable {P : Program} {N N' : Nat} {outs outs' : Nat → Prop} {E E' : Env} {s s' : S} {a : Act} {w w' : World} {orc : Orc} {cf : Cfg} {ops : Array Oper} {o : Oper} {i : Nat} {is : List Nat}
/-- One is let go. -/
theorem Rel.let (hr : Rel N outs E s a w) {r : Ref} {o : Ob} (hg : s.get r = some o) (hlo : o ≠ .hole) : Rel N outs ⟨E.b, upd E.v r (E.v r), E.st⟩ (s.upd r .gone) a w ∧ Le w E s.get w ⟨E.b, upd E.v r (E.v r), E.st⟩ (s.upd r .gone).get :=
  rel_upd hr hg hlo (by simp) (Nat.le_refl _) (fun _ _ _ => rfl) (fun _ _ _ => rfl) (fun _ _ h => h) (fun _ _ h => .inl h) (fun k hk => by cases hk) (fun _ _ _ h => by cases h) (fun _ => trivial)
/-- A map from now on is read alone. -/
theorem Rel.ro (hr : Rel N outs E s a w) {r : Ref} {es : List (Value × C)} {ps : List (Value × D)} (hg : s.get r = some (.map es))
    (hf : ∀ kv x, findK kv (ps.map fun p => (p.1, .d p.2)) = some x → findK kv es = some x) :
    Rel N outs ⟨E.b, upd E.v r (E.v r), E.st⟩ (s.upd r (.pmap ps)) a w ∧ Le w E s.get w ⟨E.b, upd E.v r (E.v r), E.st⟩ (s.upd r (.pmap ps)).get := by
  refine rel_upd hr hg (by simp) (by simp) (Nat.le_refl _) (fun _ _ _ => rfl) (fun _ _ _ => rfl) (fun _ _ h => h) (fun _ _ h => .inl h) (fun k hk => .inl hk) (fun _ _ _ h => by cases h) (fun hle => ?_)
  obtain ⟨ents, clock, h1, ⟨h2, _, _⟩, h3⟩ := hr.objs r _ hg
  refine ⟨ents, clock, h1, fun kv d hd => ?_, fun kv hd => ?_⟩
  · obtain ⟨i, v, k1, k2, k3⟩ := findK_sound (w := w) (E := E) (ob := s.get) (ents := ents.toList) (i0 := 0) (hf kv _ hd) (by simpa using h2) (fun j q x hj => by simpa using h3 j q x hj)
    exact ⟨i, v, k1, k2, Rc.le hle k3⟩
  · exact findK_sound (w := w) (E := E) (ob := s.get) (ents := ents.toList) (i0 := 0) (hf kv _ hd) (by simpa using h2) (fun j q x hj => by simpa using h3 j q x hj)
end
end Go.Vx
namespace Go.Vx.Tz
open Go Go.Vx Go.Proofs
def pmQ : List (Value × D) := [0, 1, 3, 4, 5, 6, 7].map fun i => (.int .i32 (valB i), .m (.string (keyS i)))
def cmQ : List (Value × C) := pmQ.map fun p => (p.1, .d p.2)
theorem find_int {l : List (Value × C)} (p : Int) (h : ∀ e ∈ l, ∃ z, e.1 = .int .i32 z ∧ findK e.1 cmQ = some (some e.2)) :
    ((∃ e ∈ l, e.1 = .int .i32 p) → findK (.int .i32 p) l = findK (.int .i32 p) cmQ) ∧ ((∀ e ∈ l, e.1 ≠ .int .i32 p) → findK (.int .i32 p) l = some none) := by
  induction l with
  | nil => exact ⟨fun ⟨e, he, _⟩ => (by cases he), fun _ => rfl⟩
  | cons e l ih =>
    obtain ⟨z, hz, hv⟩ := h e (.head _)
    obtain ⟨h1, h2⟩ := ih fun e he => h e (.tail _ he)
    obtain ⟨k, x⟩ := e
    simp only at hz hv
    subst hz
    by_cases hpz : p = z
    · subst hpz
      refine ⟨fun _ => ?_, fun hn => absurd rfl (hn _ (.head _))⟩
      rw [hv]
      simp [findK, sameK]
    · have hs : findK (.int .i32 p) ((.int .i32 z, x) :: l) = findK (.int .i32 p) l := by simp [findK, sameK, hpz]
      rw [hs]
      refine ⟨fun ⟨e, he, hep⟩ => h1 ?_, fun hn => h2 fun e he => hn e (.tail _ he)⟩
      cases he with
      | head => injection hep with _ hep; exact absurd hep.symm hpz
      | tail _ he => exact ⟨e, he, hep⟩
theorem find_all {vis : List Nat} (hall : ∀ i, i < 8 → i ∈ vis) (hlt : ∀ i ∈ vis, i < 8) (kv : Value) (x : Option C) (h : findK kv cmQ = some x) : findK kv (vis.flatMap entC) = some x := by
  have hkv : ∃ p, kv = .int .i32 p := by
    cases kv with
    | int k p =>
      by_cases hk : k = .i32
      · subst hk; exact ⟨p, rfl⟩
      · simp [cmQ, pmQ, findK, sameK, hk] at h
    | _ => simp [cmQ, pmQ, findK, sameK] at h
  obtain ⟨p, rfl⟩ := hkv
  have hent : ∀ j, j < 8 → ∀ e ∈ entC j, ∃ z, e.1 = .int .i32 z ∧ findK e.1 cmQ = some (some e.2) := by
    intro j hj e he
    have hc : j = 0 ∨ j = 1 ∨ j = 2 ∨ j = 3 ∨ j = 4 ∨ j = 5 ∨ j = 6 ∨ j = 7 := by omega
    rcases hc with rfl | rfl | rfl | rfl | rfl | rfl | rfl | rfl <;> first | (cases he; done) | (cases he with | head => exact ⟨_, rfl, by kernel_rfl⟩ | tail _ h => cases h)
  obtain ⟨h1, h2⟩ := find_int (l := vis.flatMap entC) p (fun e he => by
    obtain ⟨j, hj, hje⟩ := List.mem_flatMap.1 he
    exact hent j (hlt j hj) e hje)
  by_cases hex : ∃ e ∈ vis.flatMap entC, e.1 = .int .i32 p
  · rw [h1 hex, h]
  · rw [h2 fun e he hep => hex ⟨e, he, hep⟩]
    have hc2 : ∀ e ∈ cmQ, ∃ z, e.1 = .int .i32 z ∧ findK e.1 cmQ = some (some e.2) := by
      intro e he
      obtain ⟨q, hq, rfl⟩ := List.mem_map.1 he
      obtain ⟨i, hi, rfl⟩ := List.mem_map.1 hq
      exact hent i (by revert hi; simp; omega) _ (by
        have : i ≠ 2 := by rintro rfl; simp at hi
        unfold entC
        cases hb : Nat.beq i 2 with
        | true => exact absurd (Nat.eq_of_beq_eq_true hb) this
        | false => exact .head _)
    obtain ⟨_, h3⟩ := find_int (l := cmQ) p hc2
    rw [← h, h3 fun e he hep => ?_]
    obtain ⟨q, hq, rfl⟩ := List.mem_map.1 he
    obtain ⟨i, hi, rfl⟩ := List.mem_map.1 hq
    refine hex ⟨_, List.mem_flatMap.2 ⟨i, hall i (by revert hi; simp; omega), ?_⟩, hep⟩
    have : i ≠ 2 := by rintro rfl; simp at hi
    unfold entC
    cases hb : Nat.beq i 2 with
    | true => exact absurd (Nat.eq_of_beq_eq_true hb) this
    | false => exact .head _
theorem pigeon : ∀ {n : Nat} {l : List Nat}, l.Nodup → (∀ i ∈ l, i < n) → l.length ≤ n
  | 0, l, _, h => by
    cases l with
    | nil => exact Nat.le_refl 0
    | cons a l => exact absurd (h a (.head _)) (by omega)
  | n + 1, l, hn, h => by
    have hne := pigeon (n := n) (hn.erase n) fun i hi => by
      have := (hn.mem_erase_iff).1 hi
      have := h i this.2
      omega
    rw [List.length_erase] at hne
    split at hne <;> omega
/-- The loop over the escapes. -/
theorem loop_ok {N : Nat} {outs : Nat → Prop} {E0 : Env} {w0 : World} {bm it : Nat} {ents : Array MapEntry} {b : ByteArray} (hNit : N ≤ it) (hesc : EscAt ents) {Q : Exit → Act → World → Prop} : ∀ (n : Nat) {vis : List Nat} {a : Act} {w : World}, 9 ≤ vis.length + n → JQ N outs E0 w0 bm it ents b vis a w →
    (∀ vis : List Nat, (∀ i, i < 8 → i ∈ vis) → (∀ i ∈ vis, i < 8) → ∀ E a' w', Rel N outs E (sH it b (vis.flatMap entC)) a' w' → Fr N outs w0 w' → Sn N outs E0 E → LeO w0 E0 [] w' E [] → Q .normal a' w') →
    Code.rounds Tryz.prog LC (Exit.inBlock 0 Q) n a w
  | 0, vis, a, w, hn, hj, hF => by
    have := pigeon hj.nd hj.lt
    omega
  | n + 1, vis, a, w, hn, hj, hF => by
    rw [rounds_succ]
    exact round_ok hNit hesc hj (fun i a' w' hi hiv hj' => loop_ok hNit hesc n (by simp; omega) hj' hF) (fun hall E a' w' h1 h2 h3 h4 => hF vis hall hj.lt E a' w' h1 h2 h3 h4)
def escE : List (Value × C) := [0, 1, 2, 3, 4, 5, 6, 7].map fun i => (.int .u8 (keyB i), .d (.m (.string (valS i))))
def dN : DOrc := fun _ _ _ _ => none
theorem dN_ok : OKd Tryz.prog dN := fun _ _ _ _ _ h => by cases h
noncomputable def oE : Orc := evFn cf dN oN 10
set_option maxRecDepth 100000 in
theorem oE_ok : OKo Tryz.prog oE := by
  have h : OKo Tryz.prog oN := none_ok
  have := evFn_okG good dN_ok h 10
  exact this
def sB (b : ByteArray) : S := ⟨tl 63 [(0, .s b), (2, .s ⟨#[]⟩), (3, .c (.mp (.loc 0))), (13, .c (.mp (.loc 0)))], [.map []], [], []⟩
theorem R2_eq : R2 = .region 2 (cO R2) false := by kernel_rfl
theorem R2_rng : List.range (cO R2).size = [0, 1] := by kernel_rfl
set_option maxRecDepth 100000 in
theorem R2_0 : ∃ o, (cO R2)[0]? = some o ∧ o.dst = some 14 ∧ ∀ b, actO cf oE (cO R2) o (sB b).t (sB b).ev (sB b).get 1 = some (.go (.c (.mp (.loc 1))) [] [.map escE]) := ⟨_, rfl, rfl, fun b => by kernel_rfl⟩
theorem R2_1 : ∃ o, (cO R2)[1]? = some o ∧ o.dst = some 15 ∧ o.guard = none ∧ o.op = .range 210 (.tmp 14) := ⟨_, rfl, rfl, rfl, rfl⟩
def sA (b : ByteArray) : S := ⟨tl 63 [(0, .s b), (2, .s ⟨#[]⟩)], [], [], []⟩
theorem R0_exec (b : ByteArray) : exec cf oN 10 R0 ⟨[.s b] ++ List.replicate 62 (.c .dead), [], [], []⟩ = some (.nx (sA b)) := by kernel_rfl
theorem R1_exec (b : ByteArray) : exec cf oN 10 R1 (sA b) = some (.nx (sB b)) := by kernel_rfl
theorem R0_ok : codeOk R0 = true := by kernel_rfl
theorem R1_ok : codeOk R1 = true := by kernel_rfl
def sQ (b : ByteArray) : S := ⟨tl 63 [(0, .s b), (2, .s ⟨#[]⟩), (3, .c (.mp (.loc 0)))], [.pmap pmQ, .gone], [], []⟩
/-- What quoted answers. -/
noncomputable def quoO (orc : Orc) (fuel : Nat) : Orc := fun f args objs => match Nat.beq f 204, args, objs with
  | true, [.c (.d (.m (.string b)))], [] => match exec cf orc fuel RS (sQ b) with
    | some (.nx s) | some (.rt s) => match s.d with
      | [] => retE cf 204 Tryz.f204 s
      | _ => none
    | _ => none
  | _, _, _ => none
theorem run_rangeOp {P : Program} {o : Oper} {a : Act} {w w' : World} {t : TypeId} {x : Operand} {u : Value} (ho : o.op = .range t x) (h : (Instr.range t (a.eval x)).run P w = .ok u w') : (execOp a.eval o).run P w = .ok (.value u) w' := by
  obtain ⟨dst, op', type, pos, after, guard⟩ := o
  cases ho
  simp [execOp, h]
def sC (b : ByteArray) : S := ⟨tl 63 [(0, .s b), (2, .s ⟨#[]⟩), (3, .c (.mp (.loc 0))), (13, .c (.mp (.loc 0))), (14, .c (.mp (.loc 1)))], [.map [], .map escE], [], []⟩
theorem sC_eq (b : ByteArray) : (Act1.go (.c (.mp (.loc 1))) [] [.map escE]).next (sB b) (some 14) 1 = sC b := by kernel_rfl
theorem sC_sH (it : Nat) (b : ByteArray) : ({ ((sC b).upd (.loc 1) .gone).put (some 15) (.m (.pointer (some ⟨it, 0, none⟩))) with t := scrub t0 (((sC b).upd (.loc 1) .gone).put (some 15) (.m (.pointer (some ⟨it, 0, none⟩)))).t } : S) = sH it b [] := by kernel_rfl
theorem under210 : Tryz.prog.underlying 210 = some (.map 5 9) := by kernel_rfl
theorem escE_get (i : Nat) (h : i < 8) : escE[i]? = some (.int .u8 (keyB i), .d (.m (.string (valS i)))) := by
  have hc : i = 0 ∨ i = 1 ∨ i = 2 ∨ i = 3 ∨ i = 4 ∨ i = 5 ∨ i = 6 ∨ i = 7 := by omega
  rcases hc with rfl | rfl | rfl | rfl | rfl | rfl | rfl | rfl <;> rfl
theorem RS_ok : codeOk RS = true := by kernel_rfl
theorem tb0 : tl 63 [(0, .b true), (2, .b true), (3, .b true)] = tl 63 [(0, .b true), (2, .b true), (3, .b true)] := rfl
theorem sQ_scrub (it : Nat) (b : ByteArray) (es : List (Value × C)) : ({ (sH it b es).upd (.loc 0) (.pmap pmQ) with t := scrub (tl 63 [(0, .b true), (2, .b true), (3, .b true)]) ((sH it b es).upd (.loc 0) (.pmap pmQ)).t } : S) = sQ b := by kernel_rfl
theorem bq_eq2 : bodyOf Tryz.f204 = .seq R0 (.seq R1 (.seq (.seq R2 (.block 0 (.loop LC))) RS)) := bq_eq
set_option maxHeartbeats 1000000 in
set_option maxRecDepth 100000 in
theorem quoO_ok {orc : Orc} (ok : OKo Tryz.prog orc) (fuel : Nat) : OKo Tryz.prog (quoO orc fuel) := by
  intro f args objs out objs' h w E us hr hv
  unfold quoO at h
  split at h
  case h_2 => cases h
  rename_i b hf
  have : f = 204 := Nat.eq_of_beq_eq_true hf
  subst this
  have hX : ∃ s, (exec cf orc fuel RS (sQ b) = some (.nx s) ∨ exec cf orc fuel RS (sQ b) = some (.rt s)) ∧ s.d = [] ∧ retE cf 204 Tryz.f204 s = some (out, objs') := by
    split at h
    · rename_i s hx
      split at h
      · exact ⟨s, .inl hx, ‹_›, h⟩
      · cases h
    · rename_i s hx
      split at h
      · exact ⟨s, .inr hx, ‹_›, h⟩
      · cases h
    · cases h
  clear h
  have hfn := Tryz.func204
  have hc : Tryz.f204.body = some (bodyOf Tryz.f204) := by kernel_rfl
  have hcalls : Calls Tryz.prog 204 us.toArray w (CallPost w E [] objs' out) := by
    refine calls_of_wp hfn hc ?_
    have hr0 := rel0 (n := Tryz.f204.ntmps) hr hv
    rw [bq_eq2]
    obtain ⟨a0, ha0⟩ : ∃ a0 : Act, a0 = { tmps := us.toArray ++ Array.replicate (Tryz.f204.ntmps - us.toArray.size) undef, defers := [] } := ⟨_, rfl⟩
    rw [← ha0] at hr0 ⊢
    refine wp_seq (exec_wp (cf := cf) good.ti rfl none_ok (drawn_ok good.ti rfl good.mixed none_ok) 10 R0_ok (R0_exec b) hr0 (fun E1 a1 w1 k1 k2 k3 k4 => ?_))
    refine wp_seq (exec_wp (cf := cf) good.ti rfl none_ok (drawn_ok good.ti rfl good.mixed none_ok) 10 R1_ok (R1_exec b) k1 (fun E2 a2 w2 j1 j2 j3 j4 => ?_))
    refine wp_seq (wp_seq ?_)
    have f2 := k2.trans j2
    have n2 := k3.trans j3
    have l2 := Le.trans k4 j4
    clear k1 k2 k3 k4 j2 j3 j4 hr0
    obtain ⟨o0, ho0, hd0, ha0'⟩ := R2_0
    obtain ⟨o1, ho1, hd1, hg1, hop1⟩ := R2_1
    rw [R2_eq]
    refine wp_region ?_
    rw [R2_rng, wpOps_cons]
    refine act_wp (cf := cf) good.ti rfl oE_ok j1 ho0 (base := 1) (ha0' b) (Nat.le_refl _) (fun i h1 h2 => ?_) (fun _ E3 a3 w3 q1 q2 q3 q4 => ?_) (fun x wr new he => by cases he)
    · have h2 : i < 1 + 1 := h2
      have : i = 1 := by omega
      subst this
      exact .inl rfl
    rw [wpOps_cons]
    have f3 := f2.trans q2
    have n3 := n2.trans q3
    rw [hd0, sC_eq] at q1 q4
    have l3 := Le.trans l2 (Le.toO q4)
    have hh := q1.objs (.loc 1) _ rfl
    obtain ⟨ents, clock, hbm, ⟨h8, hcl, hborn⟩, hent⟩ := hh
    have h8 : ents.size = 8 := h8
    have hesc : EscAt ents := by
      refine ⟨h8, fun i hi => ?_⟩
      obtain ⟨en, g1, g2, _, g4⟩ := hent i _ _ (escE_get i hi)
      refine ⟨en, g1, g2, ?_, hborn i en g1⟩
      obtain ⟨n, hn⟩ := g4
      cases n <;> exact hn.1
    rw [hcl, h8] at hbm
    have hev : a3.eval (.tmp 14) = .map (some (E3.b (.loc 1))) := by
      exact (ev_sound q1 (x := .tmp 14) (v := .c (.mp (.loc 1))) rfl).1.2
    obtain ⟨it, hit⟩ : ∃ it, it = w3.heap.size := ⟨_, rfl⟩
    refine wpOp_val ho1 hg1 (run_rangeOp hop1 (by rw [hev]; exact run_range_map w3 210 5 9 _ ents 8 under210 hbm)) ?_
    rw [hd1, ← hit]
    refine wpOps_nil ?_
    obtain ⟨w4, hw4⟩ : ∃ w4, w4 = w3.alloc (.mapIter (some (E3.b (.loc 1))) 8 #[] 8) := ⟨_, rfl⟩
    rw [← hw4]
    have hs4 : w4.heap.size = it + 1 := by rw [hw4, hit]; exact Array.size_push _
    have ho4 : ∀ k, k < it → w4.heap[k]? = w3.heap[k]? := fun k hk => by rw [hw4]; exact heap_alloc_old _ _ (by omega)
    have hi4 : w4.heap[it]? = some (.mapIter (some (E3.b (.loc 1))) 8 #[] 8) := by rw [hw4, hit]; exact heap_alloc_new _ _
    obtain ⟨r4, le4⟩ := q1.let (r := .loc 1) rfl (by simp)
    obtain ⟨E4, hE4⟩ : ∃ E4 : Env, E4 = ⟨E3.b, upd E3.v (.loc 1) (E3.v (.loc 1)), E3.st⟩ := ⟨_, rfl⟩
    rw [← hE4] at r4 le4
    have hown : ∀ k, ownAt E4 ((sC b).upd (.loc 1) .gone).get k → k = E3.b (.loc 0) := by
      rintro k ⟨r, o, g1, g2⟩
      match r, g1 with
      | .loc 0, g1 => cases g1; cases g2; rw [hE4]
      | .loc 1, g1 => cases g1; cases g2
    have hlt0 : E3.b (.loc 0) < w3.heap.size := by
      obtain ⟨ents0, clock0, g1, _⟩ := q1.objs (.loc 0) _ rfl
      exact (Array.getElem?_eq_some_iff.1 g1).1
    obtain ⟨r5, le5⟩ := r4.beside (w' := w4) (by omega) (fun k hk => ho4 k (by
      rcases hk with hk | ⟨x, hx⟩
      · rw [hown k hk]; omega
      · have := r4.has _ _ hx
        rcases Nat.lt_or_ge k it with h | h
        · exact h
        · have hnone : w3.heap[k]? = none := Array.getElem?_eq_none (by rw [← hit]; exact h)
          simp [World.cell?, hnone] at this))
    have hlow := q1.low
    have r6 := rel_scrub (rel_put r5 (v := .m (.pointer (some ⟨it, 0, none⟩))) (u := .pointer (some ⟨it, 0, none⟩)) (m_R rfl) (some 15)) t0
    rw [sC_sH] at r6
    have f4 : Fr w.heap.size (ownBy E []) w w4 := f3.trans ⟨by rw [hw4]; rfl, by rw [hw4]; rfl, by rw [hw4]; rfl, by omega, fun k hk _ => ho4 k (by omega)⟩
    have n4 : Sn w.heap.size (ownBy E []) E E4 := n3.trans fun bb x hx => .inl (by rw [hE4] at hx; exact hx)
    have l4 : LeO w E [] w4 E4 [] := Le.trans (Le.trans l3 (Le.toO le4)) (Le.toO le5)
    have hlow := q1.low
    have hown2 : ∀ k, ownAt E4 (sH it b []).get k → k = E3.b (.loc 0) := by
      rintro k ⟨r, o, g1, g2⟩
      match r, g1 with
      | .loc 0, g1 => cases g1; cases g2; rw [hE4]
      | .loc 1, g1 => cases g1; cases g2
    have hj : JQ w.heap.size (ownBy E []) E w (E3.b (.loc 1)) it ents b [] (a3.put (some 15) (.pointer (some ⟨it, 0, none⟩))) w4 := by
      refine ⟨⟨E4, #[], 8, r6, f4, n4, l4, ?_, hi4, Nat.le_refl _, fun i _ => by simp, fun h => ?_, fun h => ?_⟩, List.nodup_nil, fun i hi => by cases hi⟩
      · rw [ho4 _ (by rw [hit]; exact (Array.getElem?_eq_some_iff.1 hbm).1)]; exact hbm
      · have := hown2 _ h
        have := q1.apart (.loc 1) (.loc 0) _ _ (E3.b (.loc 1)) rfl rfl rfl (by rw [this]; rfl)
        cases this
      · have := hown2 _ h
        omega
    refine wp_block (wp_loop_rounds 9 (loop_ok (by omega) hesc 9 (by simp) hj fun vis hall hlt E5 a5 w5 p1 p2 p3 p4 => ?_))
    obtain ⟨r7, le7⟩ := p1.ro (r := .loc 0) (ps := pmQ) rfl (find_all hall hlt)
    have r8 := rel_scrub r7 (tl 63 [(0, .b true), (2, .b true), (3, .b true)])
    rw [sQ_scrub] at r8
    obtain ⟨E7, hE7⟩ : ∃ E7 : Env, E7 = ⟨E5.b, upd E5.v (.loc 0) (E5.v (.loc 0)), E5.st⟩ := ⟨_, rfl⟩
    rw [← hE7] at r8 le7
    have n7 : Sn w.heap.size (ownBy E []) E E7 := p3.trans fun bb x hx => .inl (by rw [hE7] at hx; exact hx)
    have l7 : LeO w E [] w5 E7 [] := Le.trans p4 (Le.toO le7)
    obtain ⟨s, hX, hd, hret⟩ := hX
    have fin : ∀ {a : Act} {w' : World} {E' : Env}, Rel w.heap.size (ownBy E []) E' s a w' → Fr w.heap.size (ownBy E []) w5 w' → Sn w.heap.size (ownBy E []) E7 E' → LeO w5 E7 [] w' E' s.o →
        a.defers = [] ∧ ∃ v, (results Tryz.f204 a.tmps).run Tryz.prog w' = .ok v w' ∧ CallPost w E [] objs' out (.returned v) w' := by
      intro a w' E' k1 k2 k3 k4
      obtain ⟨v, hv, E2, j1, j2, j3, j4⟩ := retE_sound (cf := cf) good.ti k1 hret
      have hde := k1.defers.1
      rw [hd] at hde
      exact ⟨List.length_eq_zero_iff.1 hde, v, hv, CallPost.of (p2.trans k2) (n7.trans k3) (Le.trans l7 k4) (Fr.refl _) j2 j3 j1 j4⟩
    rcases hX with hx | hx
    · exact exec_wp (cf := cf) good.ti rfl ok (drawn_ok good.ti rfl good.mixed ok) fuel RS_ok hx r8 (fun E' a' w' k1 k2 k3 k4 => fin k1 k2 k3 k4)
    · exact exec_wp (cf := cf) good.ti rfl ok (drawn_ok good.ti rfl good.mixed ok) fuel RS_ok hx r8 (fun E' a' w' k1 k2 k3 k4 => fin k1 k2 k3 k4)
  unfold Does
  rw [run_enter hfn (good.named 204 _ hfn) hc]
  exact hcalls
end Go.Vx.Tz
namespace Go.Vx
open Go Go.RowKit
/-- No fence, in a round or not. -/
abbrev fen (ro : Option Nat) : Fence := { Fence.wide with round := ro }
/-- The same, other calls deferred. -/
def _root_.Go.Act.wd (a : Act) (ds : List Deferred) : Act := { a with defers := ds }
section
variable {P : Program} {N N' : Nat} {outs outs' : Nat → Prop} {E E' : Env} {s s' : S} {a : Act} {w w' : World} {orc : Orc} {cf : Cfg} {ops : Array Oper} {o : Oper} {ro : Option Nat} {n : Nat} {ds : List Deferred} {Q Q' : Exit → Act → World → Prop}
theorem wd_put (a : Act) (d : Option Tmp) (u : Value) : (a.put d u).wd ds = (a.wd ds).put d u := by cases d <;> rfl
def noDef (o : Oper) : Bool := match o.op with | .defer _ => false | _ => true
theorem noDef_ok (h : noDef o = true) (c : Call) : o.op ≠ .defer c := by
  intro e
  simp [noDef, e] at h
theorem semAt_fen (hd : ∀ c, o.op ≠ .defer c) (ρ : Operand → Value) : o.semAt ro ρ = execOp ρ o := by
  cases ro with
  | none => rfl
  | some l => exact Oper.semAt_some l _ _ hd
theorem oper_in {next next' : Act → World → Prop} (hd : ∀ c, o.op ≠ .defer c) (hn : ∀ a w, next a w → next' (a.wd ds) w) (hl : ∀ a' w', next a' w' → a'.defers.length = a.defers.length) (h : o.wp P a w next (fun _ _ _ => False)) :
    o.wpIn (fen ro) n P (a.wd ds) w next' Q := by
  refine ⟨fun _ _ => trivial, ?_⟩
  show o.uponIn _ n P (a.wd ds) next' Q ((o.semAt ro a.eval).run P w)
  rw [semAt_fen hd]
  unfold Oper.wp at h
  revert h
  generalize (execOp a.eval o).run P w = r
  intro h
  unfold Oper.upon at h
  split at h
  · have := hn _ _ h; rw [wd_put] at this; exact this
  · have := hn _ _ h; rw [wd_put] at this; exact this
  · rename_i d w'
    have := hl _ _ h
    rw [show (({ a with defers := d :: a.defers } : Act).put o.dst undef).defers = d :: a.defers from by cases o.dst <;> rfl, List.length_cons] at this
    omega
  · refine ⟨fun h => by simp [Fence.wide] at h, ?_⟩
    have h2 := (callsIn_wide (n := n - 1)).2 h
    have h3 : CallsIn (fen ro) (n - 1) P _ _ _ _ := h2
    refine h3.mono ?_
    intro e w' he
    cases e with
    | returned v => have := hn _ _ he; rw [wd_put] at this; exact this
    | panicked ch => exact he.elim
    | outgrown => exact (show False from by obtain ⟨_, _, h⟩ := he; exact h).elim
  · refine ⟨fun h => by simp [Fence.wide] at h, fun c cs _ => ?_⟩
    obtain ⟨v, w', r, s⟩ := h c cs
    refine ⟨v, w', ?_, stepsIn_wide.2 s⟩
    have := hn _ _ r; rw [wd_put] at this; exact this
  · exact h.elim
  · exact h.elim
/-- What is asked of the ways out: no panic; all that lived lives on. -/
def ResL (N : Nat) (outs : Nat → Prop) (E : Env) (w : World) (ob : Ref → Option Ob) (Q : Exit → Act → World → Prop) : Res → Prop
  | .nx s => ∀ E' a w', Rel N outs E' s a w' → Fr N outs w w' → Sn N outs E E' → Le w E ob w' E' s.get → Q .normal a w'
  | .ex id s => ∀ E' a w', Rel N outs E' s a w' → Fr N outs w w' → Sn N outs E E' → Le w E ob w' E' s.get → Q (.exit id) a w'
  | .rt s => ∀ E' a w', Rel N outs E' s a w' → Fr N outs w w' → Sn N outs E E' → Le w E ob w' E' s.get → Q .ret a w'
  | .pn x s => False
theorem ResL.go {r : Res} {ob ob' : Ref → Option Ob} (h : ResL N outs E w ob Q r) (hf : Fr N outs w w') (hs : Sn N outs E E') (hl : Le w E ob w' E' ob') : ResL N outs E' w' ob' Q r := by
  cases r with
  | nx s => exact fun E2 a w2 k1 k2 k3 k4 => h E2 a w2 k1 (hf.trans k2) (hs.trans k3) (Le.trans hl k4)
  | ex id s => exact fun E2 a w2 k1 k2 k3 k4 => h E2 a w2 k1 (hf.trans k2) (hs.trans k3) (Le.trans hl k4)
  | rt s => exact fun E2 a w2 k1 k2 k3 k4 => h E2 a w2 k1 (hf.trans k2) (hs.trans k3) (Le.trans hl k4)
  | pn x s => exact h
theorem runL_in (hti : TIok P cf.ti) (hP : cf.P = P) (ok : OKo P orc) (hops : ops.all noDef = true) : ∀ {is : List Nat} {s : S} {r : R1s} {R : Res} {E : Env} {a : Act} {w : World}, runL cf orc ops is s = some r → Res.of (some r) = some R → Rel N outs E s a w →
    ResL N outs E w s.get (fun e a w => Q e (a.wd ds) w) R → wpOpsIn (fen ro) n P ops Q is (a.wd ds) w
  | [], s, r, R, E, a, w, h, hR, hr, hQ => by
    cases h
    cases hR
    exact hQ E a w hr (Fr.refl w) (Sn.refl E) (Le.refl _ _ _)
  | i :: is, s, r, R, E, a, w, h, hR, hr, hQ => by
    unfold wpOpsIn
    simp only [runL] at h
    split
    · rename_i ho
      rw [ho] at h
      exact runL_in hti hP ok hops h hR hr hQ
    · rename_i o ho
      rw [ho] at h
      simp only [] at h
      have hnd : noDef o = true := by
        rw [Array.all_eq_true] at hops
        obtain ⟨hi, he⟩ := Array.getElem?_eq_some_iff.1 ho
        rw [← he]
        exact hops i hi
      split at h
      · rename_i v wr new hact
        let K : Act → World → Prop := fun a' w' => ∃ E', Rel N outs E' ((s.wrote wr new).put o.dst v) a' w' ∧ Fr N outs w w' ∧ Sn N outs E E' ∧ Le w E s.get w' E' ((s.wrote wr new).put o.dst v).get
        have hw : wpOp P ops (fun _ _ _ => False) i K a w := by
          refine act_wp hti hP ok hr ho hact (Nat.le_refl _) (fun i h1 h2 => .inl (List.getElem?_eq_none h1)) (fun _ E' a' w' k1 k2 k3 k4 => ?_) (fun x wr' new' he => by cases he)
          have k1 : Rel N outs E' ((s.wrote wr new).put o.dst v) a' w' := by rw [← wroteAt_end]; exact k1
          have k4 : Le w E s.get w' E' ((s.wrote wr new).put o.dst v).get := by rw [← wroteAt_end]; exact k4
          exact ⟨E', k1, k2, k3, k4⟩
        have hlen : ∀ a' w', K a' w' → a'.defers.length = a.defers.length := by
          rintro a' w' ⟨E', k1, _⟩
          rw [k1.defers.1, hr.defers.1, put_d]
          show ((s.upds wr).d).length = _
          rw [upds_d]
        have hK : ∀ a' w', K a' w' → wpOpsIn (fen ro) n P ops Q is (a'.wd ds) w' := by
          rintro a' w' ⟨E', k1, k2, k3, k4⟩
          exact runL_in hti hP ok hops h hR k1 (hQ.go k2 k3 k4)
        unfold wpOp at hw
        rw [ho] at hw
        simp only [] at hw
        show (if Region.wanted o (yielded ops a.tmps) = true then _ else _)
        split
        · rename_i hwt
          rw [if_pos hwt] at hw
          rcases hw with hw | ⟨_, _, _, hw⟩
          · exact oper_in (noDef_ok hnd) hK hlen hw
          · exact hw.elim
        · rename_i hwt
          rw [if_neg hwt] at hw
          refine ⟨fun _ _ => trivial, ?_⟩
          have := hK _ _ hw
          rw [wd_put] at this
          exact this
      · rename_i f args hact
        exfalso
        unfold actO at hact
        split at hact
        · cases hact
        · split at hact
          · rename_i _ f' a' hdf
            unfold dfrO at hdf
            split at hdf
            · rename_i c hc
              exact noDef_ok hnd c hc
            · cases hdf
          · repeat (split at hact <;> first | (cases hact; done) | skip)
        · cases hact
      · cases h
        cases hR
        exact hQ.elim
      · cases h
/-- Some operations at the head of a region. -/
theorem runL_pre {is2 : List Nat} (hti : TIok P cf.ti) (hP : cf.P = P) (ok : OKo P orc) (hops : ops.all noDef = true) : ∀ {is : List Nat} {s s1 : S} {E : Env} {a : Act} {w : World}, runL cf orc ops is s = some (.go s1) → Rel N outs E s a w →
    (∀ E' a' w', Rel N outs E' s1 a' w' → Fr N outs w w' → Sn N outs E E' → Le w E s.get w' E' s1.get → wpOpsIn (fen ro) n P ops Q is2 (a'.wd ds) w') → wpOpsIn (fen ro) n P ops Q (is ++ is2) (a.wd ds) w
  | [], s, s1, E, a, w, h, hr, hQ => by
    cases h
    exact hQ E a w hr (Fr.refl w) (Sn.refl E) (Le.refl _ _ _)
  | i :: is, s, s1, E, a, w, h, hr, hQ => by
    rw [List.cons_append]
    unfold wpOpsIn
    simp only [runL] at h
    split
    · rename_i ho
      rw [ho] at h
      exact runL_pre hti hP ok hops h hr hQ
    · rename_i o ho
      rw [ho] at h
      simp only [] at h
      have hnd : noDef o = true := by
        rw [Array.all_eq_true] at hops
        obtain ⟨hi, he⟩ := Array.getElem?_eq_some_iff.1 ho
        rw [← he]
        exact hops i hi
      split at h
      · rename_i v wr new hact
        let K : Act → World → Prop := fun a' w' => ∃ E', Rel N outs E' ((s.wrote wr new).put o.dst v) a' w' ∧ Fr N outs w w' ∧ Sn N outs E E' ∧ Le w E s.get w' E' ((s.wrote wr new).put o.dst v).get
        have hw : wpOp P ops (fun _ _ _ => False) i K a w := by
          refine act_wp hti hP ok hr ho hact (Nat.le_refl _) (fun i h1 h2 => .inl (List.getElem?_eq_none h1)) (fun _ E' a' w' k1 k2 k3 k4 => ?_) (fun x wr' new' he => by cases he)
          have k1 : Rel N outs E' ((s.wrote wr new).put o.dst v) a' w' := by rw [← wroteAt_end]; exact k1
          have k4 : Le w E s.get w' E' ((s.wrote wr new).put o.dst v).get := by rw [← wroteAt_end]; exact k4
          exact ⟨E', k1, k2, k3, k4⟩
        have hlen : ∀ a' w', K a' w' → a'.defers.length = a.defers.length := by
          rintro a' w' ⟨E', k1, _⟩
          rw [k1.defers.1, hr.defers.1, put_d]
          show ((s.upds wr).d).length = _
          rw [upds_d]
        have hK : ∀ a' w', K a' w' → wpOpsIn (fen ro) n P ops Q (is ++ is2) (a'.wd ds) w' := by
          rintro a' w' ⟨E', k1, k2, k3, k4⟩
          exact runL_pre hti hP ok hops h k1 (fun E2 a2 w2 j1 j2 j3 j4 => hQ E2 a2 w2 j1 (k2.trans j2) (k3.trans j3) (Le.trans k4 j4))
        unfold wpOp at hw
        rw [ho] at hw
        simp only [] at hw
        show (if Region.wanted o (yielded ops a.tmps) = true then _ else _)
        split
        · rename_i hwt
          rw [if_pos hwt] at hw
          rcases hw with hw | ⟨_, _, _, hw⟩
          · exact oper_in (noDef_ok hnd) hK hlen hw
          · exact hw.elim
        · rename_i hwt
          rw [if_neg hwt] at hw
          refine ⟨fun _ _ => trivial, ?_⟩
          have := hK _ _ hw
          rw [wd_put] at this
          exact this
      · rename_i f args hact
        exfalso
        unfold actO at hact
        split at hact
        · cases hact
        · split at hact
          · rename_i _ f' a' hdf
            unfold dfrO at hdf
            split at hdf
            · rename_i c hc
              exact noDef_ok hnd c hc
            · cases hdf
          · repeat (split at hact <;> first | (cases hact; done) | skip)
        · cases hact
      · cases h
      · cases h
/-- Code of regions in their order, with no loop. -/
def flat : Code → Bool
  | .skip | .label _ | .ret | .exit _ => true
  | .region _ ops false => ops.all noDef
  | .seq x y => flat x && flat y
  | .cond _ x y => flat x && flat y
  | .block _ c => flat c
  | _ => false
theorem exec_in (hti : TIok P cf.ti) (hP : cf.P = P) (ok : OKo P orc) (fuel : Nat) : ∀ {c : Code} {s : S} {R : Res} {E : Env} {a : Act} {w : World} {Q : Exit → Act → World → Prop}, flat c = true → exec cf orc fuel c s = some R → Rel N outs E s a w →
    ResL N outs E w s.get (fun e a w => Q e (a.wd ds) w) R → c.wpIn (fen ro) n P Q (a.wd ds) w := by
  intro c
  induction c with
  | skip =>
    intro s R E a w Q hc h hr hQ
    simp only [exec] at h
    cases h
    exact wpIn_skip (hQ E a w hr (Fr.refl w) (Sn.refl E) (Le.refl _ _ _))
  | label l =>
    intro s R E a w Q hc h hr hQ
    simp only [exec] at h
    cases h
    exact wpIn_label (hQ E a w hr (Fr.refl w) (Sn.refl E) (Le.refl _ _ _))
  | ret =>
    intro s R E a w Q hc h hr hQ
    simp only [exec] at h
    cases h
    exact wpIn_ret (hQ E a w hr (Fr.refl w) (Sn.refl E) (Le.refl _ _ _))
  | exit id =>
    intro s R E a w Q hc h hr hQ
    simp only [exec] at h
    cases h
    exact wpIn_exit (hQ E a w hr (Fr.refl w) (Sn.refl E) (Le.refl _ _ _))
  | region id ops draw =>
    intro s R E a w Q hc h hr hQ
    cases draw with
    | true => cases hc
    | false =>
      simp only [exec] at h
      cases hl : runL cf orc ops (List.range ops.size) s with
      | none => rw [hl] at h; cases h
      | some r =>
        rw [hl] at h
        exact wpIn_region (runL_in hti hP ok hc hl h hr hQ)
  | seq x y ihx ihy =>
    intro s R E a w Q hc h hr hQ
    simp only [exec] at h
    simp only [flat, Bool.and_eq_true] at hc
    refine wpIn_seq ?_
    split at h
    · rename_i s' hx
      exact ihx hc.1 hx hr (fun E' a' w' k1 k2 k3 k4 => ihy hc.2 h k1 (hQ.go k2 k3 k4))
    · rename_i hne
      refine ihx hc.1 h hr ?_
      cases R with
      | nx s' => exact absurd h (hne s')
      | ex id s' => exact hQ
      | rt s' => exact hQ
      | pn x s' => exact hQ
  | cond c x y ihx ihy =>
    intro s R E a w Q hc h hr hQ
    simp only [exec] at h
    simp only [flat, Bool.and_eq_true] at hc
    split at h
    case h_2 => cases h
    rename_i b hb
    refine wpIn_cond (t := b) (ev_bool hr hb) ?_
    cases b with
    | true => exact ihx hc.1 h hr hQ
    | false => exact ihy hc.2 h hr hQ
  | block id c ih =>
    intro s R E a w Q hc h hr hQ
    simp only [exec] at h
    refine wpIn_block ?_
    split at h
    · rename_i i s' hx
      refine ih hc hx hr ?_
      cases hb : Nat.beq i id with
      | true =>
        rw [hb] at h
        cases h
        have : i = id := Nat.eq_of_beq_eq_true hb
        intro E' a' w' k1 k2 k3 k4
        show (if i = id then _ else _)
        rw [if_pos this]
        exact hQ E' a' w' k1 k2 k3 k4
      | false =>
        rw [hb] at h
        cases h
        intro E' a' w' k1 k2 k3 k4
        show (if i = id then _ else _)
        rw [if_neg (fun e => by rw [e, Nat.beq_refl] at hb; cases hb)]
        exact hQ E' a' w' k1 k2 k3 k4
    · rename_i hne
      refine ih hc h hr ?_
      cases R with
      | nx s' => exact hQ
      | ex i s' => exact absurd h (hne i s')
      | rt s' => exact hQ
      | pn x s' => exact hQ
  | _ => intro s R E a w Q hc; cases hc
end
end Go.Vx
namespace Go.Vx
open Go Go.RowKit
/-- All stays, but for what lies from B on and below M. -/
structure Mid (B M : Nat) (w w' : World) : Prop where
  os : w'.os = w.os
  tape : w'.tape = w.tape
  output : w'.output = w.output
  size : w.heap.size ≤ w'.heap.size
  block : ∀ k, k < w.heap.size → (k < B ∨ M ≤ k ∨ ∃ o, w.heap[k]? = some o ∧ o.isCells = true) → w'.heap[k]? = w.heap[k]?
theorem Mid.refl (B M : Nat) (w : World) : Mid B M w w := ⟨rfl, rfl, rfl, Nat.le_refl _, fun _ _ _ => rfl⟩
theorem Mid.trans {B M : Nat} {w w1 w2 : World} (h : Mid B M w w1) (h2 : Mid B M w1 w2) : Mid B M w w2 :=
  ⟨h2.os.trans h.os, h2.tape.trans h.tape, h2.output.trans h.output, Nat.le_trans h.size h2.size, fun k h1 h3 => (h2.block k (Nat.lt_of_lt_of_le h1 h.size) (by rw [h.block k h1 h3]; exact h3)).trans (h.block k h1 h3)⟩
theorem Mid.put {B M : Nat} {w : World} {l : Nat} {o0 : Obj} (o : Obj) (h1 : B ≤ l) (h2 : l < M) (h3 : w.heap[l]? = some o0) (h4 : o0.isCells = false) : Mid B M w (w.putObj l o) :=
  ⟨rfl, rfl, rfl, by simp, fun k _ hk => World.putObj_heap_other (fun e => by
    subst e
    rcases hk with hk | hk | ⟨o', g1, g2⟩
    · omega
    · omega
    · rw [h3] at g1; cases g1; rw [h4] at g2; cases g2)⟩
theorem Mid.alloc {B M : Nat} {w : World} (o : Obj) : Mid B M w (w.alloc o) :=
  ⟨rfl, rfl, rfl, by simp, fun k h _ => Below.heap_alloc w o k h⟩
theorem Mid.mono {B M B' : Nat} {w w' : World} (h : Mid B M w w') (hB : B' ≤ B) : Mid B' M w w' := ⟨h.os, h.tape, h.output, h.size, fun k h1 h2 => h.block k h1 (by
    rcases h2 with h2 | h2 | h2
    · exact .inl (by omega)
    · exact .inr (.inl h2)
    · exact .inr (.inr h2))⟩
/-- A function that is ranged over: these are its rounds, whatever these do, so long as they turn nothing or say no. -/
def Goes (P : Program) (g : Nat) (lb : Array Value) (rows : List (Array Value → World → Prop)) (w : World) : Prop :=
  ∀ (l K : Nat) (W : World) (Rn : Nat → World → World → Prop), Below w.heap.size w W →
    (∀ (k : Nat) (p : Array Value → World → Prop) (row : Array Value) (W1 : World) (m : Nat), rows[k]? = some p → p row W1 → k ≤ K → Below W.heap.size W W1 → YieldAt Fence.wide m P l row W1 fun e W' =>
      (e = .returned (.bool true) ∧ k < K ∧ Below W1.heap.size W1 W') ∨ (e = .returned (.bool false) ∧ W1.heap.size ≤ W'.heap.size ∧ (∀ q, W.heap.size ≤ q → q < W1.heap.size → W'.heap[q]? = W1.heap[q]?) ∧ Rn k W1 W')) →
    Calls P g (#[.func (.yield l) #[] #[]] ++ lb) W fun e W2 => (∃ v, e = .returned v) ∧
      ((rows.length ≤ K ∧ Below W.heap.size W W2) ∨ ∃ k W1 W', k < rows.length ∧ Below W.heap.size W W1 ∧ W1.heap.size ≤ W'.heap.size ∧ Rn k W1 W' ∧ Mid W.heap.size W1.heap.size W' W2)
/-- What a round's body is to achieve. -/
def rPost (Rx : Nat → World → Code → World → Prop) (K L k : Nat) (Wr W1 Wp : World) : Exit → Act → World → Prop
  | .normal, _, W' => k < K ∧ Below Wr.heap.size Wr W1 ∧ Below Wr.heap.size Wp W'
  | .ret, _, W' => (Wp.heap.size ≤ W'.heap.size ∧ W'.heap[L]? = Wp.heap[L]? ∧ W'.heap[L - 1]? = Wp.heap[L - 1]?) ∧ (∀ q, L < q → q < Wr.heap.size → W'.heap[q]? = Wr.heap[q]?) ∧ Rx k Wr .ret W'
  | .exit id, _, W' => (Wp.heap.size ≤ W'.heap.size ∧ W'.heap[L]? = Wp.heap[L]? ∧ W'.heap[L - 1]? = Wp.heap[L - 1]?) ∧ (∀ q, L < q → q < Wr.heap.size → W'.heap[q]? = Wr.heap[q]?) ∧ Rx k Wr (.exit id) W'
  | _, _, _ => False
theorem Below.put_same {B : Nat} {w w1 : World} {l : Nat} {o o' : Obj} (h : Below B (w.putObj l o) w1) (hl : w.heap[l]? = some o') : Below B w (w1.putObj l o') := by
  have hlt : l < w.heap.size := (Array.getElem?_eq_some_iff.1 hl).1
  have hsz := h.size
  simp at hsz
  refine ⟨h.os, h.tape, h.output, by simpa using hsz, fun k hk => ?_⟩
  by_cases e : k = l
  · subst e; rw [World.putObj_heap_same (by omega), hl]
  · rw [World.putObj_heap_other e, h.block k hk, World.putObj_heap_other e]
theorem rf_wp {P : Program} {m : Nat} {g : Operand} {ps : Array Tmp} {assign body : Code} {Q : Exit → Act → World → Prop} {a : Act} {w : World} {gf : Nat} {lb : Array Value} {rows : List (Array Value → World → Prop)}
    (hg : a.eval g = .func (.func gf) #[] lb) (eg : ∀ args w, (callFunc gf args).run P w = .ok (.enter gf args) w) (hgo : Goes P gf lb rows w) (hps : ∀ p ∈ rows, ∀ row W, p row W → row.size = ps.size)
    (Rx : Nat → World → Code → World → Prop) (K : Nat)
    (hround : ∀ (k : Nat) (p : Array Value → World → Prop) (row : Array Value) (Wr : World) (m : Nat), rows[k]? = some p → p row Wr → k ≤ K → Below w.heap.size w Wr → w.heap.size + 1 < Wr.heap.size → (∃ r, Wr.heap[w.heap.size + 1]? = some (.loop r)) → (∃ r, Wr.heap[w.heap.size]? = some (.deferred r)) →
      assign.wpIn (Fence.wide.inRound (w.heap.size + 1)) m P (Exit.then (fun a1 W1 => (Wr.heap.size ≤ W1.heap.size ∧ W1.heap[w.heap.size + 1]? = Wr.heap[w.heap.size + 1]? ∧ W1.heap[w.heap.size]? = Wr.heap[w.heap.size]?) ∧ ∀ r', body.wpIn (Fence.wide.inRound (w.heap.size + 1)) m P (rPost Rx K (w.heap.size + 1) k Wr W1 (W1.putObj (w.heap.size + 1) (.loop r'))) a1 (W1.putObj (w.heap.size + 1) (.loop r'))) (fun _ _ _ => False))
        { tmps := (ps.zip row).foldl (fun t (p, v) => t.setIfInBounds p v) a.tmps, defers := [] } Wr)
    (hdone : ∀ W, rows.length ≤ K → Below w.heap.size w W → W.heap[w.heap.size]? = some (.deferred (some [])) → Q .normal { a with defers := { target := .collected w.heap.size, args := #[] } :: a.defers } W)
    (hstop : ∀ k Wr c W' W2, k < rows.length → Below w.heap.size w Wr → w.heap.size + 1 < Wr.heap.size → Wr.heap.size ≤ W'.heap.size → Rx k Wr c W' → Mid w.heap.size Wr.heap.size W' W2 → W2.heap[w.heap.size]? = some (.deferred (some [])) → c.wpIn Fence.wide m P Q { a with defers := { target := .collected w.heap.size, args := #[] } :: a.defers } W2) :
    (Code.rangeFunc g ps assign body).wpIn Fence.wide m P Q a w := by
  refine wpIn_rangeFunc fun fn hfn => ?_
  obtain ⟨rec, hrec⟩ : ∃ rec : LoopState → Option Code → Loop, rec = fun st pe => { state := st, pending := pe, fn, tmps := a.tmps, params := ps, assign, body, defers := w.heap.size } := ⟨_, rfl⟩
  obtain ⟨W0, hW0⟩ : ∃ W0, (w.alloc (.deferred (some []))).alloc (.loop (rec .ready none)) = W0 := ⟨_, rfl⟩
  obtain ⟨L, hLe⟩ : ∃ L, L = w.heap.size + 1 := ⟨_, rfl⟩
  have hs0 : W0.heap.size = w.heap.size + 2 := by rw [← hW0]; simp
  have hL0 : W0.heap[L]? = some (.loop (rec .ready none)) := by
    rw [← hW0, hLe]; have := World.alloc_heap_new (w.alloc (.deferred (some []))) (.loop (rec .ready none)); rwa [World.size_alloc] at this
  have hD0 : W0.heap[w.heap.size]? = some (.deferred (some [])) := by
    rw [← hW0]; exact (Below.heap_alloc _ _ _ (by simp)).trans (World.alloc_heap_new w _)
  have hb0 : Below w.heap.size w W0 := by rw [← hW0]; exact ((Below.refl _ w).alloc (Nat.le_refl _) _).alloc (by simp) _
  simp only [← hLe] at hround
  refine ⟨L, [{ target := .collected w.heap.size, args := #[] }], W0, { target := .fn (.func gf) lb, args := #[.func (.yield L) #[] #[]] }, W0, gf,
    #[.func (.yield L) #[] #[]] ++ lb, W0, ?_, ?_, fun _ _ => trivial, ?_, fun h => by simp [Fence.wide] at h, ?_⟩
  · rw [← hW0, hrec, hLe]; exact run_enterLoop_outer _ _ _ _ _
  · simp only [resolve, hg]
    simp [go_sem]
  · simp [invoke, go_sem, eg]
  · refine callsIn_wide.2 ((hgo L K W0 (fun k W1 W' => ∃ c Wb, W' = Wb.putObj L (.loop (rec .done (some c))) ∧ (∃ r, Wb.heap[L]? = some (.loop r)) ∧ Rx k W1 c Wb ∧ W'.heap[w.heap.size]? = some (.deferred (some []))) hb0 ?_).mono ?_)
    · -- a round
      intro k p row W1 m' hp hrow hkK hB
      have hl : W1.heap[L]? = some (.loop (rec .ready none)) := (hB.block L (by omega)).trans hL0
      have hd : W1.heap[w.heap.size]? = some (.deferred (some [])) := (hB.block _ (by omega)).trans hD0
      have hsz := hB.size
      have hy := run_yield (P := P) (args := row) hl (by rw [hrec]; exact hps p (List.mem_iff_getElem?.2 ⟨k, hp⟩) row W1 hrow)
      rw [hrec] at hy
      refine ⟨fn, _, assign, body, hy, roundIn_of_wpIn hfn (wpIn_mono (hround k p row W1 m' hp hrow hkK ?_ (by omega) ⟨_, hl⟩ ⟨_, hd⟩) ?_)⟩
      · exact hb0.trans (hB.mono (by omega))
      · rintro e a1 W2 hp
        cases e with
        | normal =>
          obtain ⟨⟨hs2, hl2, hd2⟩, hbody⟩ := hp
          have hl2 : W2.heap[L]? = some (.loop (rec .ready none)) := hl2.trans hl
          refine ⟨_, run_beginRound hl2 (by rw [hrec]), wpIn_mono (hbody _) ?_⟩
          obtain ⟨Wp, hWp⟩ : ∃ Wp, Wp = W2.putObj L (.loop { rec .ready none with state := .busy }) := ⟨_, rfl⟩
          have hlp : Wp.heap[L]? = some (.loop { rec .ready none with state := .busy }) := by rw [hWp]; exact World.putObj_heap_same (by omega)
          have hdp : Wp.heap[w.heap.size]? = some (.deferred (some [])) := by rw [hWp, World.putObj_heap_other (by omega), hd2]; exact hd
          have hsp : Wp.heap.size = W2.heap.size := by rw [hWp]; simp
          rw [← hWp]
          have leave : ∀ (c : Code) (W3 : World), (Wp.heap.size ≤ W3.heap.size ∧ W3.heap[L]? = Wp.heap[L]? ∧ W3.heap[L - 1]? = Wp.heap[L - 1]?) ∧ (∀ q, L < q → q < W1.heap.size → W3.heap[q]? = W1.heap[q]?) ∧ Rx k W1 c W3 →
              ∃ v w', (Instr.endRound L (some c)).run P W3 = .ok v w' ∧ ((Ending.returned v = .returned (.bool true) ∧ k < K ∧ Below W1.heap.size W1 w') ∨ (Ending.returned v = .returned (.bool false) ∧ W1.heap.size ≤ w'.heap.size ∧ (∀ q, W0.heap.size ≤ q → q < W1.heap.size → w'.heap[q]? = W1.heap[q]?) ∧
                ∃ c Wb, w' = Wb.putObj L (.loop (rec .done (some c))) ∧ (∃ r, Wb.heap[L]? = some (.loop r)) ∧ Rx k W1 c Wb ∧ w'.heap[w.heap.size]? = some (.deferred (some [])))) := by
            rintro c W3 ⟨⟨h1, h2, h3⟩, h4, hx⟩
            have hr := run_endRound (P := P) (some c) (h2.trans hlp)
            refine ⟨_, _, hr, .inr ⟨rfl, by simp; omega, fun q hq1 hq2 => (World.putObj_heap_other (by omega)).trans (h4 q (by omega) hq2), c, W3, by rw [hrec]; rfl, ⟨_, h2.trans hlp⟩, hx, ?_⟩⟩
            rw [World.putObj_heap_other (by omega)]
            have : L - 1 = w.heap.size := by omega
            rw [this] at h3
            rw [h3]; exact hdp
          intro e a3 W3 hp3
          cases e with
          | normal =>
            obtain ⟨hkK3, hB2, hp3⟩ : k < K ∧ Below W1.heap.size W1 W2 ∧ Below W1.heap.size Wp W3 := hp3
            have hl3 := (hp3.block L (by omega)).trans hlp
            refine ⟨_, _, run_endRound (P := P) none hl3, .inl ⟨rfl, hkK3, ?_⟩⟩
            rw [hWp] at hp3
            have := hB2.trans (Below.put_same hp3 hl2)
            have e1 : ({ { rec .ready none with state := .busy } with state := (if (none : Option Code).isNone = true then LoopState.ready else .done), pending := none } : Loop) = rec .ready none := by rw [hrec]; rfl
            rw [e1]
            exact this
          | ret => exact leave .ret W3 hp3
          | exit id => exact leave (.exit id) W3 hp3
          | goto t => exact hp3.elim
          | panic ch => exact hp3.elim
          | outgrown => exact hp3.elim
        | _ => exact hp.elim
    · rintro e W2 ⟨⟨v, rfl⟩, (⟨hlK, hB⟩ | ⟨k, W1, W', hk, hB1, hs1, ⟨c, Wb, rfl, ⟨rb, hLb'⟩, hx, hd⟩, hM⟩)⟩
      · have hl := (hB.block L (by omega)).trans hL0
        have hs := hB.size
        have := run_endLoop (P := P) hl (by rw [hrec]; simp)
        refine ⟨none, _, by rw [hrec] at this; exact this, ?_⟩
        refine hdone _ hlK ?_ ?_
        · refine hb0.trans ((hB.mono (by omega)).trans ⟨rfl, rfl, rfl, by simp, fun k hk => World.putObj_heap_other (by omega)⟩)
        · rw [World.putObj_heap_other (by omega)]
          exact (hB.block _ (by omega)).trans hD0
      · have hs := hB1.size
        have hLb : L < Wb.heap.size := (Array.getElem?_eq_some_iff.1 hLb').1
        have hss := hM.size
        simp at hss
        have hl : W2.heap[L]? = some (.loop (rec .done (some c))) := (hM.block L (by simpa using hLb) (.inl (by omega))).trans (World.putObj_heap_same hLb)
        have := run_endLoop (P := P) hl (by rw [hrec]; simp)
        refine ⟨some c, _, by rw [hrec] at this; exact this, ?_⟩
        simp at hs1
        refine hstop k W1 c Wb _ hk (hb0.trans (hB1.mono (by omega))) (by omega) hs1 hx ?_ ?_
        · exact ((Mid.put (.loop (rec .done (some c))) (by omega) (by omega) hLb' rfl).trans (hM.mono (by omega))).trans (Mid.put _ (by omega) (by omega) hl rfl)
        · rw [World.putObj_heap_other (by omega), hM.block _ (by simp; omega) (.inl (by omega))]
          exact hd
end Go.Vx
namespace Go.Vx
open Go Go.RowKit
def frzD : C → Option D
  | .d x => some x
  | .tk _ sz rs => some (.rows sz rs)
  | _ => none
/-- A value, its memory read alone. -/
def frzV (get : Ref → Option Ob) : V → V
  | .c (.d x) => .c (.d x)
  | .c (.tk _ sz rs) => .c (.d (.rows sz rs))
  | .c (.ptr r 0) => match get r with
    | some (.box _ cs) => match mapO frzD cs with
      | some ds => .c (.rp ds)
      | none => .c .dead
    | _ => .c .dead
  | .c (.rp cs) => .c (.rp cs)
  | .c (.fn f []) => .c (.fn f [])
  | .agg cs => match mapO frzD cs with
    | some ds => .agg (ds.map .d)
    | none => .c .dead
  | _ => .c .dead
section
variable {P : Program} {N N' : Nat} {outs outs' : Nat → Prop} {E E' : Env} {s s' : S} {a : Act} {w w' : World} {ob ob' : Ref → Option Ob}
theorem frzD_sound {c : C} {d : D} {u : Value} (h : frzD c = some d) (hR : Rc w E ob c u) : ∃ n, Rp w E.st n d u := by
  unfold frzD at h
  split at h
  · cases h; exact hR
  · cases h; exact hR.1
  · cases h
theorem frzV_sound (hr : RelO N outs E ob w) {st' : Nat → Nat → Prop} (hst : ∀ b x, E.st b x → st' b x) (hbox : ∀ r e cs, ob r = some (.box e cs) → ∀ x, x < cs.length → st' (E.b r) x) {v : V} {u : Value} (hR : Rv w E ob v u) :
    Rv w ⟨E.b, E.v, st'⟩ (fun _ => none) (frzV ob v) u := by
  have hdead : Rv w ⟨E.b, E.v, st'⟩ (fun _ => none) (.c .dead) u := ⟨trivial, fun h => absurd rfl h⟩
  unfold frzV
  split
  · obtain ⟨⟨n, hn⟩, h1⟩ := hR
    exact ⟨⟨n, hn.le hst (fun _ _ _ => rfl)⟩, fun _ => h1 (by simp)⟩
  · obtain ⟨⟨⟨n, hn⟩, _⟩, h1⟩ := hR
    exact ⟨⟨n, hn.le hst (fun _ _ _ => rfl)⟩, fun _ => h1 (by simp)⟩
  · split
    · rename_i r _ e cs hg
      split
      · rename_i ds hds
        obtain ⟨⟨hl, rfl⟩, h1⟩ := hR
        obtain ⟨us, hu1, hu2, hu3, _⟩ := hr.objs r _ hg
        obtain ⟨m1, m2⟩ := mapO_get hds
        obtain ⟨n, hn⟩ := bound_all (R := fun n (d : D) (y : Value) => Rp w st' n d y) (fun _ _ _ _ h hle => h.up hle) ds us.toList (fun j x hj => by
          obtain ⟨c, hc, hcx⟩ := m2 j x hj
          obtain ⟨y, hy, _, hRc⟩ := hu3 j c hc
          obtain ⟨n, hn⟩ := frzD_sound hcx hRc
          exact ⟨n, y, by simpa using hy, hn.le hst (fun _ _ _ => rfl)⟩)
        refine ⟨⟨n, E.b r, 0, rfl, fun j x hj => ?_⟩, fun _ => h1 (by simp)⟩
        obtain ⟨y, hy, hRp⟩ := hn j x hj
        have hjl : j < cs.length := by rw [← m1]; exact (List.getElem?_eq_some_iff.1 hj).1
        refine ⟨by rw [Nat.zero_add]; exact hbox r e cs hg j hjl, y, ?_, hRp⟩
        rw [Nat.zero_add]
        simpa [World.cell?, hu1] using hy
      · exact hdead
    · exact hdead
  · obtain ⟨⟨n, b, o, hu, hc⟩, h1⟩ := hR
    refine ⟨⟨n, b, o, hu, fun j x hj => ?_⟩, fun _ => h1 (by simp)⟩
    obtain ⟨q1, y, q2, q3⟩ := hc j x hj
    exact ⟨hst _ _ q1, y, q2, q3.le hst (fun _ _ _ => rfl)⟩
  · obtain ⟨⟨_, rfl⟩, h1⟩ := hR
    exact ⟨⟨fun r hr => by simp at hr, rfl⟩, fun _ => h1 (by simp)⟩
  · split
    · rename_i cs ds hds
      obtain ⟨us, rfl, h2, h3⟩ := hR
      obtain ⟨m1, m2⟩ := mapO_get hds
      refine ⟨us, rfl, by simp [h2, m1], fun j x hj => ?_⟩
      rw [List.getElem?_map] at hj
      obtain ⟨d, hd, rfl⟩ := Option.map_eq_some_iff.1 hj
      obtain ⟨c, hc, hcd⟩ := m2 j d hd
      obtain ⟨y, hy, hy1, hRc⟩ := h3 j c hc
      obtain ⟨n, hn⟩ := frzD_sound hcd hRc
      exact ⟨y, hy, hy1, n, hn.le hst (fun _ _ _ => rfl)⟩
    · exact hdead
  · exact hdead
/-- All, read alone. -/
def frzS (s : S) : S := ⟨s.t.map (frzV s.get), [], [], []⟩
theorem frzS_get (s : S) (r : Ref) : (frzS s).get r = none := by cases r <;> rfl
def stB (E : Env) (ob : Ref → Option Ob) (b x : Nat) : Prop := E.st b x ∨ ∃ r e cs, ob r = some (.box e cs) ∧ b = E.b r ∧ x < cs.length
theorem view_ok (hr : Rel N outs E s a w) : Rel w.heap.size (fun _ => False) ⟨E.b, E.v, stB E s.get⟩ (frzS s) (a.wd []) w := by
  have hno : ∀ {α : Sort _} {r : Ref} {o : Ob}, (frzS s).get r = some o → α := fun h => absurd (h.symm.trans (frzS_get s _)) (by simp)
  have hge : (frzS s).get = fun _ => none := funext (frzS_get s)
  refine ⟨fun i v hi => ?_, (List.length_map _).trans hr.size, fun r o h => (hno h : _), fun r r' o o' k h => (hno h : _), fun r o k h => (hno h : _), fun b x hx => ?_, ⟨rfl, fun j p hp => by simp [frzS] at hp⟩, Nat.le_refl _⟩
  · have hi : (s.t.map (frzV s.get))[i]? = some v := hi
    rw [List.getElem?_map] at hi
    obtain ⟨v0, hv0, rfl⟩ := Option.map_eq_some_iff.1 hi
    obtain ⟨u, hu, hR⟩ := hr.tmps i v0 hv0
    refine ⟨u, hu, ?_⟩
    rw [hge]
    exact frzV_sound hr.o (fun _ _ h => .inl h) (fun r e cs h x hx => .inr ⟨r, e, cs, h, rfl, hx⟩) hR
  · rcases hx with hx | ⟨r, e, cs, h, rfl, hx⟩
    · exact hr.has b x hx
    · obtain ⟨us, hu1, hu2, _⟩ := hr.objs r _ h
      have : x < us.size := by omega
      simp [World.cell?, hu1, this]
end
end Go.Vx
namespace Go.Vx
open Go Go.RowKit
def putsL (l : List (Tmp × V)) (s : S) : S := l.foldl (fun s p => s.put (some p.1) p.2) s
/-- A round that turns nothing, and goes on. -/
def goesOn (cf : Cfg) (orc : Orc) (fuel : Nat) (assign body : Code) (s : S) : Bool := match exec cf orc fuel assign s with
  | some (.nx s1) => match exec cf orc fuel body s1 with
    | some (.nx _) => true
    | _ => false
  | _ => false
/-- A round that leaves. -/
def leavesE (cf : Cfg) (orc : Orc) (fuel : Nat) (assign body : Code) (s : S) : Option (Code × S) := match exec cf orc fuel assign s with
  | some (.nx s1) => match exec cf orc fuel body s1 with
    | some (.rt s2) => some (.ret, s2)
    | some (.ex id s2) => some (.exit id, s2)
    | _ => none
  | _ => none
def loopE (cf : Cfg) (orc : Orc) (fuel : Nat) (ps : List Tmp) (assign body : Code) (s : S) : List (List V) → Option (Option (Code × S))
  | [] => some none
  | vs :: rest => bif goesOn cf orc fuel assign body (putsL (ps.zip vs) (frzS s)) then loopE cf orc fuel ps assign body s rest
    else match leavesE cf orc fuel assign body (putsL (ps.zip vs) s) with
      | some q => some (some q)
      | none => none
section
variable {P : Program} {N N' : Nat} {outs outs' : Nat → Prop} {E E' : Env} {s s' : S} {a : Act} {w w' : World} {orc : Orc} {cf : Cfg} {fuel m : Nat} {assign body : Code} {Q : Exit → Act → World → Prop}
theorem loopE_spec {ps : List Tmp} : ∀ {rows : List (List V)} {r : Option (Code × S)}, loopE cf orc fuel ps assign body s rows = some r → ∃ K, K ≤ rows.length ∧ (∀ k vs, k < K → rows[k]? = some vs → goesOn cf orc fuel assign body (putsL (ps.zip vs) (frzS s)) = true) ∧
    (r = none → K = rows.length) ∧ (∀ q, r = some q → ∃ vs, rows[K]? = some vs ∧ leavesE cf orc fuel assign body (putsL (ps.zip vs) s) = some q)
  | [], r, h => by
    cases h
    exact ⟨0, Nat.le_refl _, fun k vs hk => by omega, fun _ => rfl, fun q hq => by cases hq⟩
  | vs :: rest, r, h => by
    unfold loopE at h
    cases hg : goesOn cf orc fuel assign body (putsL (ps.zip vs) (frzS s)) with
    | true =>
      rw [hg] at h
      obtain ⟨K, h1, h2, h3, h4⟩ := loopE_spec (rows := rest) h
      refine ⟨K + 1, by simp; omega, fun k v hk hv => ?_, fun hr => by simp [h3 hr], fun q hq => ?_⟩
      · cases k with
        | zero => cases hv; exact hg
        | succ k => exact h2 k v (by omega) (by simpa using hv)
      · obtain ⟨v, hv, hl⟩ := h4 q hq
        exact ⟨v, by simpa using hv, hl⟩
    | false =>
      rw [hg] at h
      simp only [cond_false] at h
      split at h
      · rename_i q hq
        cases h
        refine ⟨0, Nat.zero_le _, fun k v hk => absurd hk (Nat.not_lt_zero _), fun hr => (by cases hr), fun q' hq' => ?_⟩
        cases hq'
        exact ⟨vs, rfl, hq⟩
      · cases h
theorem rel_puts : ∀ {ps : List Tmp} {vs : List V} {us : List Value} {s : S} {a : Act}, Rel N outs E s a w → vs.length = us.length → (∀ (j : Nat) (x : V), vs[j]? = some x → ∃ u : Value, us[j]? = some u ∧ Rv w E s.get x u) →
    Rel N outs E (putsL (ps.zip vs) s) { tmps := (ps.zip us).foldl (fun t (p, v) => t.setIfInBounds p v) a.tmps, defers := a.defers } w
  | [], vs, us, s, a, hr, hl, hv => hr
  | p :: ps, [], us, s, a, hr, hl, hv => by
    cases us with
    | nil => exact hr
    | cons _ _ => simp at hl
  | p :: ps, x :: vs, us, s, a, hr, hl, hv => by
    cases us with
    | nil => simp at hl
    | cons u us =>
      obtain ⟨u', hu', hR⟩ := hv 0 x rfl
      cases hu'
      have := rel_puts (ps := ps) (vs := vs) (us := us) (rel_put hr hR (some p)) (by simpa using hl) (fun j y hj => by
        obtain ⟨u, hu, hR⟩ := hv (j + 1) y (by simpa using hj)
        exact ⟨u, by simpa using hu, by rw [put_get]; exact hR⟩)
      exact this
theorem putsL_get : ∀ (l : List (Tmp × V)) (s : S), (putsL l s).get = s.get
  | [], s => rfl
  | p :: l, s => by
    show (putsL l (s.put (some p.1) p.2)).get = _
    rw [putsL_get, put_get]
theorem own_lt (hr : Rel N outs E s a w) {k : Nat} (h : ownAt E s.get k) : k < w.heap.size := by
  obtain ⟨r, o, h1, h2⟩ := h
  exact blk_lt (hr.objs r o h1) h2
theorem st_lt (hr : Rel N outs E s a w) {k x : Nat} (h : E.st k x) : k < w.heap.size := by
  have := hr.has k x h
  rcases Nat.lt_or_ge k w.heap.size with hk | hk
  · exact hk
  · simp [World.cell?, Array.getElem?_eq_none hk] at this
theorem st_obj (hr : Rel N outs E s a w) {k x : Nat} {o : Obj} (h : E.st k x) (ho : w.heap[k]? = some o) (hc : o.isCells = false) : False := by
  have := hr.has k x h
  cases o <;> simp [World.cell?, ho] at this
  cases hc
theorem Rel.reN (hr : Rel N outs E s a w) (hN : N' ≤ w.heap.size) (hm : ∀ k, ownAt E s.get k → N' ≤ k ∨ outs' k) : Rel N' outs' E s a w :=
  ⟨hr.tmps, hr.size, hr.objs, hr.apart, fun r o k h1 h2 => hm k ⟨r, o, h1, h2⟩, hr.has, hr.defers, hN⟩
/-- What turns nothing of it. -/
theorem Rel.below (hr : Rel N outs E s a w) (hb : Below w.heap.size w w') : Rel N outs E s a w' ∧ Le w E s.get w' E s.get :=
  hr.beside hb.size (fun k hk => hb.block k (by
    rcases hk with hk | ⟨x, hx⟩
    · exact own_lt hr hk
    · exact st_lt hr hx))
theorem Rel.tmpsOf (hr : Rel N outs E s a w) {s2 : S} {a2 : Act} (hr2 : Rel N outs E' s2 a2 w') (hl : Le w E s.get w' E' s2.get) (hd : a.defers = []) (hsd : s.d = []) : Rel N outs E' ⟨s.t, s2.l, s2.o, []⟩ a w' := by
  have hg : (S.mk s.t s2.l s2.o []).get = s2.get := by funext r; cases r <;> rfl
  refine Rel.of (by rw [hg]; exact hr2.o) (fun i v hi => ?_) hr.size (by rw [hd]; exact ⟨rfl, fun j p hp => by simp at hp⟩)
  obtain ⟨u, hu, hR⟩ := hr.tmps i v hi
  exact ⟨u, hu, by rw [hg]; exact hR.le hl⟩
/-- A row of these values, none of which hangs on what is owned. -/
def rowP (w : World) (E : Env) (vs : List V) (row : Array Value) (W : World) : Prop := ∃ st1 : Nat → Nat → Prop, (∀ b x, E.st b x → st1 b x) ∧ (∀ b x, st1 b x → E.st b x ∨ w.heap.size ≤ b) ∧ (∀ b x, st1 b x → (W.cell? ⟨b, x, none⟩).isSome = true) ∧ Pv W ⟨E.b, E.v, st1⟩ (fun _ => none) vs row.toList
/-- More is read. -/
theorem Rel.more (hr : Rel N outs E s a w) {st1 : Nat → Nat → Prop} (h1 : ∀ b x, E.st b x → st1 b x) (h2 : ∀ b x, st1 b x → E.st b x ∨ ¬ ownAt E s.get b) (h3 : ∀ b x, st1 b x → (w.cell? ⟨b, x, none⟩).isSome = true) : Rel N outs ⟨E.b, E.v, st1⟩ s a w ∧ Le w E s.get w ⟨E.b, E.v, st1⟩ s.get := by
  have hle : Le w E s.get w ⟨E.b, E.v, st1⟩ s.get := ⟨h1, fun _ _ _ => rfl, fun _ h => h, fun _ _ => rfl, fun r e sz n _ h => ⟨n, h, Nat.le_refl _, fun _ => rfl⟩⟩
  have hb : ∀ r o, blk ⟨E.b, E.v, st1⟩ r o = blk E r o := fun r o => by cases o <;> rfl
  refine ⟨⟨fun i v hi => ?_, hr.size, fun r o ho => ?_, fun r r' o o' k g1 g2 g3 g4 => hr.apart r r' o o' k g1 g2 (by rw [← hb]; exact g3) (by rw [← hb]; exact g4), fun r o k g1 g2 => hr.mine r o k g1 (by rw [← hb]; exact g2), h3, hr.defers.le hle, hr.low⟩, hle⟩
  · obtain ⟨u, hu, hR⟩ := hr.tmps i v hi
    exact ⟨u, hu, hR.le hle⟩
  · have hown : ∀ k, blk E r o = some k → ∀ x, st1 k x → E.st k x := fun k hk x hx => by
      rcases h2 k x hx with h | h
      · exact h
      · exact absurd ⟨r, o, ho, hk⟩ h
    exact Ro_keep hle rfl rfl (fun _ _ => rfl) (fun k hk x hx => hown k hk x hx) (hr.objs r o ho)
theorem rf_rel {ps : Array Tmp} {g : Operand} {gf : Nat} {lb : Array Value} {rowsV : List (List V)} {r : Option (Code × S)}
    (hti : TIok P cf.ti) (hP : cf.P = P) (ok : OKo P orc) (hr : Rel N outs E s a w) (hd : a.defers = []) (hsd : s.d = [])
    (hg : a.eval g = .func (.func gf) #[] lb) (eg : ∀ args w, (callFunc gf args).run P w = .ok (.enter gf args) w) (hgo : Goes P gf lb (rowsV.map (rowP w E)) w) (hps : ∀ vs ∈ rowsV, vs.length = ps.size)
    (hfa : flat assign = true) (hfb : flat body = true) (h : loopE cf orc fuel ps.toList assign body s rowsV = some r)
    (hdone : r = none → ∀ W, Rel N outs E s a W → Fr N outs w W → Le w E s.get W E s.get → W.heap[w.heap.size]? = some (.deferred (some [])) → Q .normal (a.wd [{ target := .collected w.heap.size, args := #[] }]) W)
    (hstop : ∀ c s2, r = some (c, s2) → ∀ E2 W, Rel N outs E2 ⟨s.t, s2.l, s2.o, []⟩ a W → Fr N outs w W → Sn N outs E E2 → Le w E s.get W E2 s2.get → W.heap[w.heap.size]? = some (.deferred (some [])) → ¬ ownAt E2 s2.get w.heap.size → c.wpIn Fence.wide m P Q (a.wd [{ target := .collected w.heap.size, args := #[] }]) W) :
    (Code.rangeFunc g ps assign body).wpIn Fence.wide m P Q a w := by
  obtain ⟨K, hK1, hK2, hK3, hK4⟩ := loopE_spec h
  have hnoL : ¬ ownAt E s.get (w.heap.size + 1) := fun h => by have := own_lt hr h; omega
  have hnoD : ¬ ownAt E s.get w.heap.size := fun h => by have := own_lt hr h; omega
  have hlow := hr.low
  have hmark : ∀ ds : List Deferred, ds ++ a.defers = ds := fun ds => by rw [hd]; simp
  have hwd : ∀ d : Deferred, ({ a with defers := d :: a.defers } : Act) = a.wd [d] := fun d => by rw [hd]; rfl
  obtain ⟨Rx, hRx⟩ : ∃ Rx : Nat → World → Code → World → Prop, Rx = fun k Wr c W' => ∃ s2 E2 a2, r = some (c, s2) ∧ Rel Wr.heap.size (ownAt E s.get) E2 s2 a2 W' ∧ Fr N outs w W' ∧ Sn w.heap.size (ownAt E s.get) E E2 ∧ Le w E s.get W' E2 s2.get := ⟨_, rfl⟩
  refine rf_wp (m := m) hg eg hgo (fun p hp row Wq hrow => by
      obtain ⟨vs, hvs, rfl⟩ := List.mem_map.1 hp
      obtain ⟨_, _, _, _, hrow⟩ := hrow
      rw [← hps vs hvs, ← hrow.1]; simp)
    Rx K ?_ ?_ ?_
  · -- a round
    rintro k p row Wr m' hrow hpv hkK hB hsz ⟨rL, hL⟩ ⟨rD, hD⟩
    rw [List.getElem?_map] at hrow
    obtain ⟨vs, hvs, rfl⟩ := Option.map_eq_some_iff.1 hrow
    obtain ⟨st1, g1, g2, g3, hpv⟩ := hpv
    obtain ⟨hrWr, hleWr⟩ := hr.below hB
    have hsB := hB.size
    have htmps : ((ps.zip row).foldl (fun t (p, v) => t.setIfInBounds p v) a.tmps) = (ps.toList.zip row.toList).foldl (fun t (p, v) => t.setIfInBounds p v) a.tmps := by
      rw [← Array.foldl_toList, Array.toList_zip]
    rw [htmps]
    have hpl : vs.length = row.toList.length := hpv.1.symm
    have hkl : k < rowsV.length := (List.getElem?_eq_some_iff.1 hvs).1
    by_cases hlt : k < K
    · -- it goes on
      have hgoes := hK2 k vs hlt hvs
      have hA0 := view_ok hr
      have hA1 := (hA0.below (w' := Wr) hB).1
      have hownA : ∀ (E' : Env) q, ¬ ownAt E' (frzS s).get q := fun E' q ⟨r', o, h1, _⟩ => by rw [frzS_get] at h1; cases h1
      have hA1' := (hA1.more (st1 := fun b x => stB E s.get b x ∨ st1 b x) (fun _ _ h => .inl h) (fun b x _ => .inr (hownA _ b)) (fun b x h => by
        rcases h with h | h
        · exact hA1.has b x h
        · exact g3 b x h)).1
      have hA2 := hA1'.reN (N' := Wr.heap.size) (outs' := fun _ => False) (Nat.le_refl _) (fun q hq => absurd hq (hownA _ q))
      have hA3 := rel_puts (ps := ps.toList) hA2 hpl (fun j x hj => by
        obtain ⟨u, hu, hR⟩ := hpv.2 j x hj
        refine ⟨u, hu, ?_⟩
        have hle : Le Wr ⟨E.b, E.v, st1⟩ (fun _ => none) Wr ⟨E.b, E.v, fun b x => stB E s.get b x ∨ st1 b x⟩ (frzS s).get := ⟨fun b o h => .inr h, fun b o h => rfl, fun r h => (by obtain ⟨o, h, _⟩ := h; cases h), fun r h => (by obtain ⟨o, h, _⟩ := h; cases h), fun r e sz n h => (by obtain ⟨o, h, _⟩ := h; cases h)⟩
        exact hR.le hle)
      unfold goesOn at hgoes
      split at hgoes
      case h_2 => cases hgoes
      rename_i s1 hx1
      split at hgoes
      case h_2 => cases hgoes
      rename_i s2 hx2
      have := exec_in (ro := some (w.heap.size + 1)) (n := m') (ds := []) hti hP ok fuel (Q := Exit.then (fun a1 W1 => (Wr.heap.size ≤ W1.heap.size ∧ W1.heap[w.heap.size + 1]? = Wr.heap[w.heap.size + 1]? ∧ W1.heap[w.heap.size]? = Wr.heap[w.heap.size]?) ∧ ∀ r', body.wpIn (Fence.wide.inRound (w.heap.size + 1)) m' P (rPost Rx K (w.heap.size + 1) k Wr W1 (W1.putObj (w.heap.size + 1) (.loop r'))) a1 (W1.putObj (w.heap.size + 1) (.loop r'))) (fun _ _ _ => False)) hfa hx1 hA3 (fun E1 a1 W1 k1 k2 k3 k4 => ?_)
      · exact this
      · refine ⟨⟨k2.size, k2.block _ hsz (fun h => h), k2.block _ (by omega) (fun h => h)⟩, fun r' => ?_⟩
        have hL1 : W1.heap[w.heap.size + 1]? = some (.loop rL) := (k2.block _ hsz (fun h => h)).trans hL
        obtain ⟨k1', _⟩ := k1.beside (w' := W1.putObj (w.heap.size + 1) (.loop r')) (by simp) (fun q hq => World.putObj_heap_other (fun e => by
          subst e
          rcases hq with ⟨r2, o2, h1, h2⟩ | ⟨x, hx⟩
          · rcases k1.mine r2 o2 _ h1 h2 with h | h
            · omega
            · exact h
          · exact st_obj k1 hx hL1 rfl))
        refine exec_in (ro := some (w.heap.size + 1)) (n := m') (ds := []) hti hP ok fuel hfb hx2 k1' (fun E2 a2 W2 q1 q2 q3 q4 => ?_)
        exact ⟨hlt, ⟨k2.os, k2.tape, k2.output, k2.size, fun q hq => k2.block q hq (fun h => h)⟩, q2.os, q2.tape, q2.output, q2.size, fun q hq => q2.block q hq (fun h => h)⟩
    · -- it leaves
      have hkK' : k = K := by omega
      cases r with
      | none => have := hK3 rfl; rw [hkK'] at hkl; omega
      | some q =>
      obtain ⟨vs', hvs', hlv⟩ := hK4 q rfl
      rw [← hkK', hvs] at hvs'
      cases hvs'
      obtain ⟨hB0, hB0l⟩ := hrWr.more g1 (fun b x h => (g2 b x h).imp id (fun h hown => by have := own_lt hr hown; omega)) g3
      have hown1 : ∀ q, ownAt ⟨E.b, E.v, st1⟩ s.get q → ownAt E s.get q := fun q ⟨r', o, h1, h2⟩ => ⟨r', o, h1, by rw [← h2]; cases o <;> rfl⟩
      have hB1 := hB0.reN (N' := Wr.heap.size) (outs' := ownAt E s.get) (Nat.le_refl _) (fun q hq => .inr (hown1 q hq))
      have hB2 := rel_puts (ps := ps.toList) hB1 hpl (fun j x hj => by
        obtain ⟨u, hu, hR⟩ := hpv.2 j x hj
        refine ⟨u, hu, ?_⟩
        have hle : Le Wr ⟨E.b, E.v, st1⟩ (fun _ => none) Wr ⟨E.b, E.v, st1⟩ s.get := ⟨fun b o h => h, fun b o h => rfl, fun r h => (by obtain ⟨o, h, _⟩ := h; cases h), fun r h => (by obtain ⟨o, h, _⟩ := h; cases h), fun r e sz n h => (by obtain ⟨o, h, _⟩ := h; cases h)⟩
        exact hR.le hle)
      rw [hd] at hB2
      unfold leavesE at hlv
      split at hlv
      case h_2 => cases hlv
      rename_i s1 hx1
      have := exec_in (ro := some (w.heap.size + 1)) (n := m') (ds := []) hti hP ok fuel (Q := Exit.then (fun a1 W1 => (Wr.heap.size ≤ W1.heap.size ∧ W1.heap[w.heap.size + 1]? = Wr.heap[w.heap.size + 1]? ∧ W1.heap[w.heap.size]? = Wr.heap[w.heap.size]?) ∧ ∀ r', body.wpIn (Fence.wide.inRound (w.heap.size + 1)) m' P (rPost Rx K (w.heap.size + 1) k Wr W1 (W1.putObj (w.heap.size + 1) (.loop r'))) a1 (W1.putObj (w.heap.size + 1) (.loop r'))) (fun _ _ _ => False)) hfa hx1 hB2 (fun E1 a1 W1 k1 k2 k3 k4 => ?_)
      · exact this
      · refine ⟨⟨k2.size, k2.block _ hsz hnoL, k2.block _ (by omega) hnoD⟩, fun r' => ?_⟩
        have hL1 : W1.heap[w.heap.size + 1]? = some (.loop rL) := (k2.block _ hsz hnoL).trans hL
        have hs1 := k2.size
        obtain ⟨k1', k1l⟩ := k1.beside (w' := W1.putObj (w.heap.size + 1) (.loop r')) (by simp) (fun q hq => World.putObj_heap_other (fun e => by
          subst e
          rcases hq with ⟨r2, o2, h1, h2⟩ | ⟨x, hx⟩
          · rcases k1.mine r2 o2 _ h1 h2 with h | h
            · omega
            · exact hnoL h
          · exact st_obj k1 hx hL1 rfl))
        have hfp : Fr N outs w (W1.putObj (w.heap.size + 1) (.loop r')) := by
          have f1 : Fr N outs w Wr := ⟨hB.os, hB.tape, hB.output, hB.size, fun q hq _ => hB.block q (by omega)⟩
          have f2 : Fr N outs Wr W1 := ⟨k2.os, k2.tape, k2.output, k2.size, fun q hq ho => k2.block q (by omega) (fun h => by
            rcases ownAt_sub hr h with h | h
            · omega
            · exact ho h)⟩
          refine (f1.trans f2).trans ⟨rfl, rfl, rfl, by simp, fun q hq _ => World.putObj_heap_other (by omega)⟩
        have hle1 : Le w E s.get (W1.putObj (w.heap.size + 1) (.loop r')) E1 s1.get := by
          have := Le.trans (Le.trans (Le.trans hleWr hB0l) (by rw [putsL_get] at k4; exact k4)) k1l
          exact this
        have fin : ∀ c s2, q = (c, s2) → ∀ E2 a2 W2, Rel Wr.heap.size (ownAt E s.get) E2 s2 a2 W2 → Fr Wr.heap.size (ownAt E s.get) (W1.putObj (w.heap.size + 1) (.loop r')) W2 → Sn Wr.heap.size (ownAt E s.get) E1 E2 → Le (W1.putObj (w.heap.size + 1) (.loop r')) E1 s1.get W2 E2 s2.get →
            ((W1.putObj (w.heap.size + 1) (.loop r')).heap.size ≤ W2.heap.size ∧ W2.heap[w.heap.size + 1]? = (W1.putObj (w.heap.size + 1) (.loop r')).heap[w.heap.size + 1]? ∧ W2.heap[w.heap.size + 1 - 1]? = (W1.putObj (w.heap.size + 1) (.loop r')).heap[w.heap.size + 1 - 1]?) ∧ (∀ q, w.heap.size + 1 < q → q < Wr.heap.size → W2.heap[q]? = Wr.heap[q]?) ∧ Rx k Wr c W2 := by
          intro c s2 hq E2 a2 W2 q1 q2 q3 q4
          have hnq : ∀ q, w.heap.size ≤ q → ¬ ownAt E s.get q := fun q hq h => by have := own_lt hr h; omega
          refine ⟨⟨q2.size, q2.block _ hsz hnoL, q2.block _ (by omega) hnoD⟩, fun x hx1 hx2 => ?_, ?_⟩
          · rw [q2.block x hx2 (hnq x (by omega)), World.putObj_heap_other (by omega), k2.block x hx2 (hnq x (by omega))]
          rw [hRx]
          refine ⟨s2, E2, a2, by rw [hq], q1, hfp.trans ⟨q2.os, q2.tape, q2.output, q2.size, fun x hx ho => q2.block x (by omega) (fun h => by
            rcases ownAt_sub hr h with h | h
            · omega
            · exact ho h)⟩, fun b x hx => ?_, Le.trans hle1 q4⟩
          rcases (k3.trans q3) b x hx with h | h | h
          · rcases g2 b x h with h | h
            · exact .inl h
            · exact .inr (.inl h)
          · exact .inr (.inl (by omega))
          · exact .inr (.inr h)
        split at hlv
        · rename_i s2 hx2
          cases hlv
          exact exec_in (ro := some (w.heap.size + 1)) (n := m') (ds := []) hti hP ok fuel hfb hx2 k1' (fun E2 a2 W2 q1 q2 q3 q4 => fin _ _ rfl E2 a2 W2 q1 q2 q3 q4)
        · rename_i id s2 hx2
          cases hlv
          exact exec_in (ro := some (w.heap.size + 1)) (n := m') (ds := []) hti hP ok fuel hfb hx2 k1' (fun E2 a2 W2 q1 q2 q3 q4 => fin _ _ rfl E2 a2 W2 q1 q2 q3 q4)
        · cases hlv
  · -- done
    intro W hlK hB hD
    rw [hwd]
    obtain ⟨h1, h2⟩ := hr.below hB
    refine hdone ?_ W h1 ⟨hB.os, hB.tape, hB.output, hB.size, fun x hx _ => hB.block x (by omega)⟩ h2 hD
    cases r with
    | none => rfl
    | some q =>
      obtain ⟨vs, hvs, _⟩ := hK4 q rfl
      have := (List.getElem?_eq_some_iff.1 hvs).1
      rw [List.length_map] at hlK
      omega
  · -- left
    intro k Wr c W' W2 hk hB hsz hsW hx hM hD
    rw [hRx] at hx
    obtain ⟨s2, E2, a2, hrq, q1, q2, q3, q4⟩ := hx
    have hsB := hB.size
    obtain ⟨hrWr, hleWr⟩ := hr.below hB
    obtain ⟨q5, q6⟩ := q1.beside (w' := W2) hM.size (fun x hx => by
      rcases hx with hx | ⟨y, hy⟩
      · refine hM.block x (own_lt q1 hx) ?_
        rcases ownAt_sub q1 hx with h | h
        · exact .inr (.inl h)
        · exact .inl (own_lt hr h)
      · refine hM.block x (st_lt q1 hy) (.inr (.inr ?_))
        have hlt := st_lt q1 hy
        refine ⟨_, Array.getElem?_eq_getElem hlt, ?_⟩
        cases hc : (W'.heap[x]).isCells with
        | true => rfl
        | false => exact (st_obj q1 hy (Array.getElem?_eq_getElem hlt) hc).elim)
    have q7 := Rel.back hrWr (by have := hM.size; omega) (w' := W2) (E' := E2) (s' := s2) (a' := a2) (q5.reN (by have := hM.size; omega) (fun x hx => ownAt_sub q5 hx))
    have q8 := hr.tmpsOf q7 (Le.trans q4 q6) hd hsd
    rw [hwd]
    refine hstop c s2 hrq E2 W2 q8 (q2.trans ⟨hM.os, hM.tape, hM.output, hM.size, fun x hx _ => ?_⟩) ?_ (Le.trans q4 q6) hD ?_
    · have := q2.size
      exact hM.block x (by omega) (.inl (by omega))
    · intro b x hx
      rcases q3 b x hx with h | h | h
      · exact .inl h
      · exact .inr (.inl (by omega))
      · exact .inr (ownAt_sub hr h)
    · intro h
      rcases ownAt_sub q5 h with h | h
      · omega
      · exact hnoD h
end
end Go.Vx
namespace Go.Vx
open Go Go.RowKit
/-- Operations that read alone. -/
def runV (cf : Cfg) (ops : Array Oper) : List Nat → S → Option S
  | [], s => some s
  | i :: is, s => match ops[i]? with
    | none => runV cf ops is s
    | some o => match wantB ops s.t o with
      | some true => match eff cf.P cf.ti s.ev s.get o.op with
        | some (.val v) => runV cf ops is (s.put o.dst v)
        | _ => none
      | some false => runV cf ops is (s.put o.dst (.tup []))
      | none => none
section
variable {P : Program} {N N' : Nat} {outs outs' : Nat → Prop} {E E' : Env} {s s' : S} {a : Act} {w w' : World} {orc : Orc} {cf : Cfg} {ops : Array Oper} {o : Oper} {ro : Option Nat} {n : Nat} {ds : List Deferred} {Q Q' : Exit → Act → World → Prop}
theorem runV_pre {is2 : List Nat} (hti : TIok P cf.ti) (hP : cf.P = P) (hops : ops.all noDef = true) : ∀ {is : List Nat} {s s1 : S} {a : Act}, runV cf ops is s = some s1 → Rel N outs E s a w →
    (∀ a', Rel N outs E s1 a' w → wpOpsIn (fen ro) n P ops Q is2 (a'.wd ds) w) → wpOpsIn (fen ro) n P ops Q (is ++ is2) (a.wd ds) w
  | [], s, s1, a, h, hr, hQ => by
    cases h
    exact hQ a hr
  | i :: is, s, s1, a, h, hr, hQ => by
    rw [List.cons_append]
    unfold wpOpsIn
    simp only [runV] at h
    split
    · rename_i ho
      rw [ho] at h
      exact runV_pre hti hP hops h hr hQ
    · rename_i o ho
      rw [ho] at h
      simp only [] at h
      have hnd : noDef o = true := by
        rw [Array.all_eq_true] at hops
        obtain ⟨hi, he⟩ := Array.getElem?_eq_some_iff.1 ho
        rw [← he]
        exact hops i hi
      split at h
      case h_3 => cases h
      case h_2 =>
        rename_i hw
        show (if Region.wanted o (yielded ops a.tmps) = true then _ else _)
        rw [if_neg (by rw [want_sound hr hw]; simp)]
        refine ⟨fun _ _ => trivial, ?_⟩
        rw [← wd_put]
        have hundef : Rv w E s.get (.tup []) undef := ⟨[], rfl, rfl, fun j x hx => by simp at hx⟩
        exact runV_pre hti hP hops h (rel_put hr hundef o.dst) hQ
      rename_i hw
      split at h
      case h_2 => cases h
      rename_i v he
      rw [hP] at he
      obtain ⟨u, hrun, hv⟩ : ValOk P E s a w o v := eff_sound hti hr he
      show (if Region.wanted o (yielded ops a.tmps) = true then _ else _)
      rw [if_pos (want_sound hr hw)]
      refine ⟨fun _ _ => trivial, ?_⟩
      show o.uponIn _ n P (a.wd ds) _ Q ((o.semAt ro a.eval).run P w)
      rw [semAt_fen (noDef_ok hnd), hrun, Oper.uponIn_value, ← wd_put]
      exact runV_pre hti hP hops h (rel_put hr hv o.dst) hQ
theorem runV_reg {id : Nat} {s1 : S} (hti : TIok P cf.ti) (hP : cf.P = P) (hops : ops.all noDef = true) (h : runV cf ops (List.range ops.size) s = some s1) (hr : Rel N outs E s a w) (hQ : ∀ a', Rel N outs E s1 a' w → Q .normal (a'.wd ds) w) :
    (Code.region id ops false).wpIn (fen ro) n P Q (a.wd ds) w := by
  refine wpIn_region ?_
  have := runV_pre (is2 := []) (ro := ro) (n := n) (ds := ds) (Q := Q) hti hP hops h hr (fun a' k => hQ a' k)
  rw [List.append_nil] at this
  exact this
/-- One tmp alone is told of. -/
theorem rel_triv {i m : Nat} {b : Bool} (hd : a.defers = []) (hs : a.tmps.size = m) (hi : i < m) (hb : a.eval (.tmp i) = .bool b) : Rel w.heap.size (fun _ => False) ⟨fun _ => 0, fun _ => undef, fun _ _ => False⟩ ⟨(List.replicate m (.c .dead)).set i (.b b), [], [], []⟩ a w := by
  have hno : ∀ {α : Prop} {r : Ref} {o : Ob}, (S.mk ((List.replicate m (.c .dead)).set i (.b b)) [] [] []).get r = some o → α := fun {α r o} h => by cases r <;> cases h
  refine ⟨fun j v hj => ?_, by simp [hs], fun r o h => hno h, fun r r' o o' k h => hno h, fun r o k h => hno h, fun _ _ h => h.elim, ⟨by rw [hd]; rfl, fun j p hp => by simp at hp⟩, Nat.le_refl _⟩
  have hj : ((List.replicate m (V.c .dead)).set i (.b b))[j]? = some v := hj
  have hjm : j < m := by
    have := (List.getElem?_eq_some_iff.1 hj).1
    simpa using this
  have hja : j < a.tmps.size := by omega
  refine ⟨a.tmps[j], Array.getElem?_eq_getElem hja, ?_⟩
  rw [List.getElem?_set] at hj
  by_cases e : i = j
  · subst e
    simp [hi] at hj
    subst hj
    have : a.tmps[i] = .bool b := by rw [← hb]; simp [Act.eval, hja]
    rw [this]
    exact ⟨⟨0, rfl, rfl⟩, fun _ => rfl⟩
  · rw [if_neg e, List.getElem?_replicate, if_pos hjm] at hj
    cases hj
    exact ⟨trivial, fun h => absurd rfl h⟩
theorem runV_go {i : Nat} {is : List Nat} {v : V} (ho : ops[i]? = some o) (hw : wantB ops s.t o = some true) (he : eff cf.P cf.ti s.ev s.get o.op = some (.val v)) : runV cf ops (i :: is) s = runV cf ops is (s.put o.dst v) := by
  simp only [runV, ho, hw, he]
theorem eff_row {t e : TypeId} {r0 : TRow} {x i : Operand} {sz : Nat} {rs : List (List D)} {row : List D} {k : Nat} (hk : kdOf cf.ti t = some (.slice e)) (hte : cf.ti e = some r0) (hx : s.ev x = some (.c (.d (.rows sz rs)))) (hi : s.ev i = some (.m (.int .i64 (Int.ofNat k)))) (h0 : 0 < r0.size) (hrow : rs[k]? = some row) (hl : row.length = r0.size) :
    eff P cf.ti s.ev s.get (.indexAddr t x i) = some (.val (.c (.rp row))) := by
  simp [eff, hx, hi, effIndexAddr, hk, hte, C.rows?, h0, hrow, hl]
end
end Go.Vx
namespace Go.Vx.Tz
open Go Go.Vx Go.Proofs Go.RowKit
noncomputable def bb : Code := bodyOf Tryz.f196
noncomputable def B0 : Code := cL bb
noncomputable def BL : Code := cB (cB (cR bb))
noncomputable def B1 : Code := cL (cL BL)
noncomputable def B3 : Code := cL (cB (cL (cR BL)))
noncomputable def B2 : Code := cR (cR BL)
theorem bb_eq : bb = .seq B0 (.block 0 (.loop (.seq (.seq B1 (.cond (.tmp 8) .skip (.exit 0))) (.seq (.block 1 (.seq B3 (.cond (.tmp 18) .ret .skip))) B2)))) := by kernel_rfl
theorem B0_eq : B0 = .region 0 (cO B0) false ∧ (cO B0).all noDef = true := ⟨by kernel_rfl, by kernel_rfl⟩
theorem B1_eq : B1 = .region 1 (cO B1) false ∧ (cO B1).all noDef = true := ⟨by kernel_rfl, by kernel_rfl⟩
theorem B2_eq : B2 = .region 2 (cO B2) false ∧ (cO B2).all noDef = true := ⟨by kernel_rfl, by kernel_rfl⟩
theorem B3_eq : B3 = .region 3 (cO B3) false ∧ (cO B3).all noDef = true ∧ List.range (cO B3).size = [0, 1, 2, 3, 4, 5] ++ [6, 7] := ⟨by kernel_rfl, by kernel_rfl, by kernel_rfl⟩
def wr (z : Int) : V := .m (.int .i64 (IntKind.wrap .i64 z))
def iV (z : Int) : V := .m (.int .i64 z)
def sBk (yv : Value) (rs : List (List D)) (z : Int) : S := ⟨tl 19 [(0, .m yv), (1, .c (.rp [.rows 9 rs])), (3, iV z)], [], [], []⟩
def tBk : List V := tl 19 [(0, .b true), (1, .b true), (3, .b true)]
def sB0 (yv : Value) (rs : List (List D)) : S := ⟨[.m yv, .c (.rp [.rows 9 rs])] ++ List.replicate 17 (.c .dead), [], [], []⟩
def sB1 (yv : Value) (rs : List (List D)) : S := ((((sB0 yv rs).put (some 4) (.c (.d (.rows 9 rs)))).put (some 5) (iV rs.length)).put (some 6) (wr ((rs.length : Int) - 1))).put (some 3) (wr ((rs.length : Int) - 1))
theorem B0_run (yv : Value) (rs : List (List D)) : runV cf (cO B0) (List.range (cO B0).size) (sB0 yv rs) = some (sB1 yv rs) := by kernel_rfl
theorem sB1_scrub (yv : Value) (rs : List (List D)) : ({ sB1 yv rs with t := scrub tBk (sB1 yv rs).t } : S) = sBk yv rs (IntKind.wrap .i64 ((rs.length : Int) - 1)) := by kernel_rfl
def sB2 (yv : Value) (rs : List (List D)) (z : Int) : S := ((sBk yv rs z).put (some 7) (iV z)).put (some 8) (.b (decide (z ≥ 0)))
theorem B1_run (yv : Value) (rs : List (List D)) (z : Int) : runV cf (cO B1) (List.range (cO B1).size) (sBk yv rs z) = some (sB2 yv rs z) := by kernel_rfl
theorem sB2_scrub (yv : Value) (rs : List (List D)) (z : Int) : ({ sB2 yv rs z with t := scrub tBk (sB2 yv rs z).t } : S) = sBk yv rs z := by kernel_rfl
def sB3 (yv : Value) (rs : List (List D)) (z : Int) : S := (((sBk yv rs z).put (some 9) (iV z)).put (some 10) (wr (z - 1))).put (some 3) (wr (z - 1))
theorem B2_run (yv : Value) (rs : List (List D)) (z : Int) : runV cf (cO B2) (List.range (cO B2).size) (sBk yv rs z) = some (sB3 yv rs z) := by kernel_rfl
theorem sB3_scrub (yv : Value) (rs : List (List D)) (z : Int) : ({ sB3 yv rs z with t := scrub tBk (sB3 yv rs z).t } : S) = sBk yv rs (IntKind.wrap .i64 (z - 1)) := by kernel_rfl
def sB4 (yv : Value) (rs : List (List D)) (z : Int) : S := ((((sBk yv rs z).put (some 11) (.m yv)).put (some 12) (iV z)).put (some 13) (.c (.d (.rows 9 rs)))).put (some 14) (iV z)
theorem B3_run1 (yv : Value) (rs : List (List D)) (z : Int) : runV cf (cO B3) [0, 1, 2, 3, 4, 5] (sBk yv rs z) = runV cf (cO B3) [4, 5] (sB4 yv rs z) := by kernel_rfl
def sB6 (yv : Value) (rs : List (List D)) (z : Int) (row : List D) : S := ((sB4 yv rs z).put (some 15) (.c (.rp row))).put (some 16) (.agg (row.map .d))
theorem B3_4 : ∃ o, (cO B3)[4]? = some o ∧ o.dst = some 15 ∧ (∀ t, wantB (cO B3) t o = some true) ∧ o.op = .indexAddr 62 (.tmp 13) (.tmp 14) := ⟨_, rfl, rfl, fun _ => rfl, rfl⟩
theorem B3_run2' (yv : Value) (rs : List (List D)) (z : Int) (d0 d1 d2 d3 d4 d5 d6 d7 d8 : D) : runV cf (cO B3) [5] ((sB4 yv rs z).put (some 15) (.c (.rp [d0, d1, d2, d3, d4, d5, d6, d7, d8]))) = some (sB6 yv rs z [d0, d1, d2, d3, d4, d5, d6, d7, d8]) := by kernel_rfl
theorem B3_run2 (yv : Value) (rs : List (List D)) (z : Int) (row : List D) (h : row.length = 9) : runV cf (cO B3) [5] ((sB4 yv rs z).put (some 15) (.c (.rp row))) = some (sB6 yv rs z row) := by
  match row, h with
  | [d0, d1, d2, d3, d4, d5, d6, d7, d8], _ => exact B3_run2' yv rs z d0 d1 d2 d3 d4 d5 d6 d7 d8
theorem ti28 : ∃ r0, cf.ti 28 = some r0 ∧ r0.size = 9 := by
  have h : (cf.ti 28).map TRow.size = some 9 := by kernel_rfl
  exact Option.map_eq_some_iff.1 h
theorem kd62 : kdOf cf.ti 62 = some (.slice 28) := by kernel_rfl
theorem B3_run (yv : Value) (rs : List (List D)) (k : Nat) (row : List D) (hrow : rs[k]? = some row) (h : row.length = 9) : runV cf (cO B3) [0, 1, 2, 3, 4, 5] (sBk yv rs (Int.ofNat k)) = some (sB6 yv rs (Int.ofNat k) row) := by
  obtain ⟨o, ho, hd, hw, hop⟩ := B3_4
  obtain ⟨r0, hr0, hs0⟩ := ti28
  rw [B3_run1, runV_go ho (hw _) (v := .c (.rp row)) ?_, hd]
  · exact B3_run2 yv rs _ row h
  · rw [hop]
    exact eff_row (sz := 9) kd62 hr0 (by kernel_rfl) (by kernel_rfl) (by omega) hrow (by omega)
/-- What Backward hands over. -/
def rowsB (rs : List (List D)) : List (List V) := (List.range rs.length).map fun k => [iV (Int.ofNat (rs.length - 1 - k)), .agg ((rs[rs.length - 1 - k]?.getD []).map .d)]
theorem B3_6 : ∃ o, (cO B3)[6]? = some o ∧ o.dst = some 17 ∧ o.guard = none ∧ ∃ c, o.op = .call c ∧ c.callee = .value (.tmp 11) ∧ c.args = #[.tmp 12, .tmp 16] := ⟨_, rfl, rfl, rfl, _, rfl, rfl, rfl⟩
theorem B3_7 : ∃ o, (cO B3)[7]? = some o ∧ o.dst = some 18 ∧ o.guard = none ∧ o.op = .unOp .not 4 (.tmp 17) := ⟨_, rfl, rfl, rfl, rfl⟩
theorem run_yieldOp {o : Oper} {a : Act} {w : World} {c : Call} {x y z : Operand} {l : Nat} {r : Result Next} (ho : o.op = .call c) (hc : c.callee = .value x) (ha : c.args = #[y, z]) (hx : a.eval x = .func (.yield l) #[] #[]) (hy : (Instr.yield l #[a.eval y, a.eval z]).run Tryz.prog w = r) : (execOp a.eval o).run Tryz.prog w = r := by
  obtain ⟨dst, op', type, pos, after, guard⟩ := o
  obtain ⟨callee, args, at'⟩ := c
  cases ho
  cases hc
  cases ha
  rw [← hy]
  clear hy
  generalize a.eval = ρ at hx ⊢
  simp [execOp, resolve, hx, invoke, Deferred.ofValue, go_sem]
theorem sB8_scrub (yv : Value) (rs : List (List D)) (z : Int) (row : List D) : ({ ((sB6 yv rs z row).put (some 17) (.b true)).put (some 18) (.b false) with t := scrub tBk (((sB6 yv rs z row).put (some 17) (.b true)).put (some 18) (.b false)).t } : S) = sBk yv rs z := by kernel_rfl
theorem run_notOp {o : Oper} {a : Act} {w : World} {x : Operand} {b : Bool} (ho : o.op = .unOp .not 4 x) (hx : a.eval x = .bool b) : (execOp a.eval o).run Tryz.prog w = .ok (.value (.bool !b)) w := by
  obtain ⟨dst, op', type, pos, after, guard⟩ := o
  cases ho
  generalize a.eval = ρ at hx ⊢
  simp [execOp, hx, go_sem]
theorem opsIn_one {F : Fence} {n : Nat} {ops : Array Oper} {Q : Exit → Act → World → Prop} {i : Nat} {is : List Nat} {o : Oper} {a : Act} {w : World} (ho : ops[i]? = some o) (hg : o.guard = none) (h : o.wpIn F n Tryz.prog a w (wpOpsIn F n Tryz.prog ops Q is) Q) : wpOpsIn F n Tryz.prog ops Q (i :: is) a w := by
  unfold wpOpsIn
  rw [ho]
  simp only []
  rw [if_pos (by simp [Region.wanted, hg])]
  exact h
theorem wrap_in (z : Int) (h : -1 ≤ z) (h2 : z ≤ 9223372036854775807) : IntKind.wrap .i64 z = z := by
  simp [IntKind.wrap, IntKind.bits, IntKind.signed]
  omega
theorem rowsB_get {rs : List (List D)} {k : Nat} (hk : k < rs.length) {row : List D} (h : rs[rs.length - 1 - k]? = some row) : (rowsB rs)[k]? = some [iV (Int.ofNat (rs.length - 1 - k)), .agg (row.map .d)] := by
  simp [rowsB, List.getElem?_map, List.getElem?_range hk, h]
set_option maxRecDepth 100000 in
theorem back_goes {E : Env} {w : World} {n Bs : Nat} {rs : List (List D)} {sv : Value} (hs : E.st Bs 0) (hc : w.cell? ⟨Bs, 0, none⟩ = some sv) (hR : Rp w E.st n (.rows 9 rs) sv) (hhas : ∀ b x, E.st b x → (w.cell? ⟨b, x, none⟩).isSome = true) :
    Goes Tryz.prog 196 #[.pointer (some ⟨Bs, 0, none⟩)] ((rowsB rs).map (rowP w E)) w := by
  intro l K W Rn hW hY
  have hrl : rs.length ≤ maxLen ∧ ∀ r ∈ rs, r.length = 9 := by
    cases n with
    | zero => exact hR.elim
    | succ n => obtain ⟨A, c, _, h1, h2, _⟩ := hR; exact ⟨h1.2.1, h2⟩
  obtain ⟨yv, hyv⟩ : ∃ yv, yv = Value.func (.yield l) #[] #[] := ⟨_, rfl⟩
  have hcell : ∀ b x, E.st b x → W.cell? ⟨b, x, none⟩ = w.cell? ⟨b, x, none⟩ := fun b x h => World.cell?_of_block (hW.block b (cell_lt (hhas b x h)))
  have hno : ∀ {α : Prop} {r : Ref} {o : Ob}, obOf [] r = some o → α := fun {α r o} h => by cases r <;> cases h
  have hO : RelO W.heap.size (fun _ => False) E (obOf []) W := ⟨fun r o h => hno h, fun r r' o o' k h => hno h, fun r o k h => hno h, fun b x h => by rw [hcell b x h]; exact hhas b x h, Nat.le_refl _⟩
  have hPv : Pv W E (obOf []) [.m yv, .c (.rp [.rows 9 rs])] [yv, .pointer (some ⟨Bs, 0, none⟩)] := by
    refine ⟨rfl, fun j x hj => ?_⟩
    match j, hj with
    | 0, hj => cases hj; exact ⟨_, rfl, m_R (by rw [hyv]; rfl)⟩
    | 1, hj =>
      cases hj
      refine ⟨_, rfl, ⟨n, Bs, 0, rfl, fun j x hj => ?_⟩, fun _ => rfl⟩
      match j, hj with
      | 0, hj => cases hj; exact ⟨hs, sv, (hcell _ _ hs).trans hc, hR.le (fun _ _ h => h) hcell⟩
  have hr0 := rel0 (n := 19) hO hPv
  refine callsIn_wide.1 (callsIn_of_wp (F := Fence.wide) (n := 0) Tryz.func196 (show Tryz.f196.body = some bb from by kernel_rfl) trivial ?_)
  obtain ⟨a0, ha0⟩ : ∃ a0 : Act, a0 = { tmps := [yv, Value.pointer (some ⟨Bs, 0, none⟩)].toArray ++ Array.replicate (19 - [yv, Value.pointer (some ⟨Bs, 0, none⟩)].toArray.size) undef, defers := [] } := ⟨_, rfl⟩
  rw [← ha0] at hr0
  have ea : ({ tmps := (#[Value.func (.yield l) #[] #[]] ++ #[Value.pointer (some ⟨Bs, 0, none⟩)]) ++ Array.replicate (Tryz.f196.ntmps - (#[Value.func (.yield l) #[] #[]] ++ #[Value.pointer (some ⟨Bs, 0, none⟩)]).size) undef, defers := [] } : Act) = a0.wd [] := by
    rw [ha0, hyv]; rfl
  rw [ea, bb_eq]
  have hr0 : Rel W.heap.size (fun _ => False) E (sB0 yv rs) a0 W := hr0
  refine wpIn_seq ?_
  rw [B0_eq.1]
  refine runV_reg (ro := none) good.ti rfl B0_eq.2 (B0_run yv rs) hr0 (fun a1 k1 => ?_)
  have k2 := rel_scrub k1 tBk
  rw [sB1_scrub] at k2
  have hmax : (rs.length : Int) ≤ 9223372036854775807 := by have := hrl.1; simp [maxLen] at this; omega
  rw [wrap_in _ (by omega) (by omega)] at k2
  refine wpIn_block (wpIn_loop_rounds (rs.length + 1) ?_)
  obtain ⟨RR, hRR⟩ : ∃ RR : Ending → World → Prop, RR = fun e W2 => (∃ v, e = .returned v) ∧
        (((List.map (rowP w E) (rowsB rs)).length ≤ K ∧ Below W.heap.size W W2) ∨ ∃ k W1 W', k < (List.map (rowP w E) (rowsB rs)).length ∧ Below W.heap.size W W1 ∧ W1.heap.size ≤ W'.heap.size ∧ Rn k W1 W' ∧ Mid W.heap.size W1.heap.size W' W2) := ⟨_, rfl⟩
  rw [← hRR]
  -- the rounds
  have key : ∀ (j k : Nat) (a1 : Act) (W1 : World), j + k = rs.length → k ≤ K → Below W.heap.size W W1 → Rel W.heap.size (fun _ => False) E (sBk yv rs ((rs.length : Int) - 1 - k)) a1 W1 →
      Code.roundsIn Fence.wide 0 Tryz.prog (.seq (.seq B1 (.cond (.tmp 8) .skip (.exit 0))) (.seq (.block 1 (.seq B3 (.cond (.tmp 18) .ret .skip))) B2)) (Exit.inBlock 0 (bodyPost Tryz.prog Tryz.f196 RR)) (j + 1) (a1.wd []) W1 := by
    intro j
    induction j with
    | zero =>
      intro k a1 W1 hjk hkK hB hr
      rw [roundsIn_succ]
      refine wpIn_seq (wpIn_seq ?_)
      rw [B1_eq.1]
      refine runV_reg (ro := none) good.ti rfl B1_eq.2 (B1_run yv rs _) hr (fun a2 q1 => ?_)
      have hz : decide (((rs.length : Int) - 1 - k) ≥ 0) = false := by rw [decide_eq_false_iff_not]; omega
      refine wpIn_cond (t := false) ((ev_bool q1 (c := .tmp 8) (b := false) (by rw [← hz]; kernel_rfl)) : (a2.wd []).eval (.tmp 8) = _) (wpIn_exit ?_)
      have hfin : bodyPost Tryz.prog Tryz.f196 RR .normal (a2.wd []) W1 := by
        refine ⟨rfl, .tuple #[], results_none rfl _ _ _, ?_⟩
        rw [hRR]
        refine ⟨⟨_, rfl⟩, .inl ⟨?_, hB⟩⟩
        simp [rowsB]
        omega
      exact hfin
    | succ j ih =>
      intro k a1 W1 hjk hkK hB hr
      rw [roundsIn_succ]
      refine wpIn_seq (wpIn_seq ?_)
      rw [B1_eq.1]
      refine runV_reg (ro := none) good.ti rfl B1_eq.2 (B1_run yv rs _) hr (fun a2 q1 => ?_)
      have hz : decide (((rs.length : Int) - 1 - k) ≥ 0) = true := by rw [decide_eq_true_iff]; omega
      refine wpIn_cond (t := true) ((ev_bool q1 (c := .tmp 8) (b := true) (by rw [← hz]; kernel_rfl)) : (a2.wd []).eval (.tmp 8) = _) (wpIn_skip ?_)
      refine wpIn_seq (wpIn_block (wpIn_seq ?_))
      have q2 := rel_scrub q1 tBk
      rw [sB2_scrub] at q2
      have hzk : ((rs.length : Int) - 1 - k) = Int.ofNat (rs.length - 1 - k) := by simp; omega
      rw [hzk] at q2
      have hkl : rs.length - 1 - k < rs.length := by omega
      have hrow := List.getElem?_eq_getElem hkl
      have h9 := hrl.2 _ (List.getElem_mem hkl)
      obtain ⟨row, hrw⟩ : ∃ row, row = rs[rs.length - 1 - k] := ⟨_, rfl⟩
      rw [← hrw] at hrow h9
      rw [B3_eq.1]
      refine wpIn_region ?_
      rw [B3_eq.2.2]
      refine runV_pre (ro := none) good.ti rfl B3_eq.2.1 (B3_run yv rs _ row hrow h9) q2 (fun a6 r6 => ?_)
      obtain ⟨o6, ho6, hd6, hg6, c6, hop6, hc6, hca6⟩ := B3_6
      obtain ⟨o7, ho7, hd7, hg7, hop7⟩ := B3_7
      have ey : a6.eval (.tmp 11) = .func (.yield l) #[] #[] := by rw [← hyv]; exact (ev_m r6 (x := .tmp 11) (by kernel_rfl)).1
      have hno6 : (sB6 yv rs (Int.ofNat (rs.length - 1 - k)) row).get = fun _ => none := by funext r; cases r <;> rfl
      have hpv : rowP w E [iV (Int.ofNat (rs.length - 1 - k)), .agg (row.map .d)] #[a6.eval (.tmp 12), a6.eval (.tmp 16)] W1 := by
        have hle : Le W1 E (sB6 yv rs (Int.ofNat (rs.length - 1 - k)) row).get W1 E (fun _ => none) := by
          rw [hno6]
          exact Le.refl _ _ _
        refine ⟨E.st, fun _ _ h => h, fun _ _ h => .inl h, r6.has, ?_⟩
        refine ⟨rfl, fun j x hj => ?_⟩
        match j, hj with
        | 0, hj => cases hj; exact ⟨_, rfl, (ev_sound r6 (x := .tmp 12) (by kernel_rfl)).le hle⟩
        | 1, hj => cases hj; exact ⟨_, rfl, (ev_sound r6 (x := .tmp 16) (by kernel_rfl)).le hle⟩
      obtain ⟨fn, tmps, assign, body, hy, hRound⟩ := hY k _ _ W1 (0 - 1) (by rw [List.getElem?_map, rowsB_get (by omega) hrow]; rfl) hpv hkK hB
      refine opsIn_one ho6 hg6 ⟨fun _ _ => trivial, ?_⟩
      show o6.uponIn Fence.wide 0 Tryz.prog (a6.wd []) _ _ ((execOp (a6.wd []).eval o6).run Tryz.prog W1)
      rw [run_yieldOp (a := a6.wd []) hop6 hc6 hca6 ey hy, Oper.uponIn_round]
      refine ⟨fun h => by simp [Fence.wide] at h, hRound.mono ?_⟩
      have hsz6 : a6.tmps.size = 19 := by rw [← r6.size]; kernel_rfl
      rintro e W2 (⟨rfl, hkK2, hB2⟩ | ⟨rfl, hs2, _, hrn⟩)
      · refine opsIn_one ho7 hg7 ⟨fun _ _ => trivial, ?_⟩
        show o7.uponIn Fence.wide 0 Tryz.prog _ _ _ ((execOp ((a6.wd []).put o6.dst (.bool true)).eval o7).run Tryz.prog W2)
        rw [run_notOp (b := true) hop7 (by rw [hd6]; exact eval_put_self (by show 17 < a6.tmps.size; omega)), Oper.uponIn_value, hd6, hd7]
        have r7 := rel_put (rel_put (r6.below (w' := W2) hB2).1 (v := .b true) (u := .bool true) (m_R rfl) (some 17)) (v := .b false) (u := .bool false) (m_R rfl) (some 18)
        refine wpIn_cond (t := false) (eval_put_self (by rw [put_size]; show 18 < a6.tmps.size; omega)) (wpIn_skip ?_)
        have r8 := rel_scrub r7 tBk
        rw [sB8_scrub, ← hzk] at r8
        rw [B2_eq.1]
        refine runV_reg (a := ((a6.put (some 17) (.bool true)).put (some 18) (.bool false))) (ro := none) (ds := []) good.ti rfl B2_eq.2 (B2_run yv rs _) r8 (fun a9 k9 => ?_)
        have k10 := rel_scrub k9 tBk
        rw [sB3_scrub, wrap_in _ (by omega) (by omega)] at k10
        refine ih (k + 1) a9 W2 (by omega) (by omega) (hB.trans (hB2.mono (by have := hB.size; omega))) ?_
        have e : ((rs.length : Int) - 1 - (k + 1 : Nat)) = (rs.length : Int) - 1 - k - 1 := by omega
        rw [e]
        exact k10
      · refine opsIn_one ho7 hg7 ⟨fun _ _ => trivial, ?_⟩
        show o7.uponIn Fence.wide 0 Tryz.prog _ _ _ ((execOp ((a6.wd []).put o6.dst (.bool false)).eval o7).run Tryz.prog W2)
        rw [run_notOp (b := false) hop7 (by rw [hd6]; exact eval_put_self (by show 17 < a6.tmps.size; omega)), Oper.uponIn_value, hd6, hd7]
        refine wpIn_cond (t := true) (eval_put_self (by rw [put_size]; show 18 < a6.tmps.size; omega)) (wpIn_ret ?_)
        have hfin : bodyPost Tryz.prog Tryz.f196 RR .ret ((((a6.wd []).put (some 17) (.bool false)).put (some 18) (.bool !false))) W2 := by
          refine ⟨rfl, .tuple #[], results_none rfl _ _ _, ?_⟩
          rw [hRR]
          refine ⟨⟨_, rfl⟩, .inr ⟨k, W1, W2, ?_, hB, hs2, hrn, Mid.refl _ _ _⟩⟩
          simp [rowsB]
          omega
        exact hfin
  exact key rs.length 0 a1 W (by omega) (Nat.zero_le _) (Below.refl _ _) (by simpa using k2)
end Go.Vx.Tz
namespace Go.Vx.Tz
open Go Go.Vx Go.Proofs Go.RowKit
noncomputable def wb : Code := bodyOf Tryz.f145
noncomputable def W0c : Code := cL wb
noncomputable def W1c : Code := cL (cR wb)
noncomputable def WRf : Code := cB (cR (cR wb))
def rfA : Code → Code | .rangeFunc _ _ a _ => a | c => c
def rfB : Code → Code | .rangeFunc _ _ _ b => b | c => c
noncomputable def WA : Code := rfA WRf
noncomputable def WB : Code := cB (rfB WRf)
noncomputable def W4 : Code := cL WB
theorem wb_eq : wb = .seq W0c (.seq W1c (.block 0 (.rangeFunc (.tmp 7) #[8, 9] WA (.block 1 (.seq W4 (.cond (.tmp 19) .ret .skip)))))) := by kernel_rfl
theorem W_flat : flat W0c = true ∧ flat W1c = true ∧ flat WA = true := ⟨by kernel_rfl, by kernel_rfl, by kernel_rfl⟩
theorem W4_eq : W4 = .region 4 (cO W4) false ∧ (cO W4).all noDef = true ∧ List.range (cO W4).size = [0, 1, 2] ++ [3, 4, 5, 6, 7, 8, 9] := ⟨by kernel_rfl, by kernel_rfl, by kernel_rfl⟩
def sW0 (yv : Value) (rs : List (List D)) (ask : List D) : S := ⟨[.m yv, .c (.rp [.rows 9 rs]), .c (.rp ask)] ++ List.replicate 17 (.c .dead), [], [], []⟩
def sW1 (yv : Value) (rs : List (List D)) (ask : List D) : S := ⟨tl 20 [(0, .m yv), (1, .c (.rp [.rows 9 rs])), (2, .c (.rp ask)), (3, .c (.ptr (.loc 0) 0))], [.box 182 [.d (.m yv)]], [], []⟩
theorem W0_exec (l : Nat) (rs : List (List D)) (ask : List D) : exec cf oN 10 W0c (sW0 (.func (.yield l) #[] #[]) rs ask) = some (.nx (sW1 (.func (.yield l) #[] #[]) rs ask)) := by kernel_rfl
noncomputable def oW : Orc := evFn cf dN oN 10
set_option maxRecDepth 100000 in
theorem oW_ok : OKo Tryz.prog oW := oE_ok
def sW2 (yv : Value) (rs : List (List D)) (ask : List D) : S := ⟨tl 20 [(0, .m yv), (1, .c (.rp [.rows 9 rs])), (2, .c (.rp ask)), (3, .c (.ptr (.loc 0) 0)), (6, .c (.d (.rows 9 rs))), (7, .c (.fn 196 [.loc 1]))], [.box 182 [.d (.m yv)], .box 62 [.d (.rows 9 rs)]], [], []⟩
theorem W1_exec (l : Nat) (rs : List (List D)) (ask : List D) : exec cf oW 10 W1c (sW1 (.func (.yield l) #[] #[]) rs ask) = some (.nx (sW2 (.func (.yield l) #[] #[]) rs ask)) := by kernel_rfl
def askD (nm : ByteArray) (flag : Bool) (fv : Value) : List D := [.m (.string nm), .m (.bool flag), .m fv]
def sW3 (yv : Value) (rs : List (List D)) (ask : List D) (z : Int) (row : List D) : S := ⟨tl 20 [(0, .m yv), (1, .c (.rp [.rows 9 rs])), (2, .c (.rp ask)), (3, .c (.rp [.m yv])), (4, iV z), (5, .c (.ptr (.loc 0) 0)), (6, .c (.d (.rows 9 rs))), (8, iV z), (9, .agg (row.map .d))], [.box 28 (row.map .d)], [], []⟩
theorem WA_exec' (l : Nat) (rs : List (List D)) (ask : List D) (z : Int) (d0 d1 d2 d3 d4 d5 d6 d7 d8 : D) : exec cf oN 10 WA (putsL [(8, iV z), (9, .agg ([d0, d1, d2, d3, d4, d5, d6, d7, d8].map .d))] (frzS (sW2 (.func (.yield l) #[] #[]) rs ask))) = some (.nx (sW3 (.func (.yield l) #[] #[]) rs ask z [d0, d1, d2, d3, d4, d5, d6, d7, d8])) := by kernel_rfl
theorem WA_exec (l : Nat) (rs : List (List D)) (ask : List D) (z : Int) (row : List D) (h : row.length = 9) : exec cf oN 10 WA (putsL [(8, iV z), (9, .agg (row.map .d))] (frzS (sW2 (.func (.yield l) #[] #[]) rs ask))) = some (.nx (sW3 (.func (.yield l) #[] #[]) rs ask z row)) := by
  match row, h with
  | [d0, d1, d2, d3, d4, d5, d6, d7, d8], _ => exact WA_exec' l rs ask z d0 d1 d2 d3 d4 d5 d6 d7 d8
def sW4 (yv : Value) (rs : List (List D)) (ask : List D) (z : Int) (row : List D) : S := (((sW3 yv rs ask z row).put (some 10) (.m yv)).put (some 11) (iV z)).put (some 12) (.agg (row.map .d))
theorem W4_run' (yv : Value) (rs : List (List D)) (ask : List D) (z : Int) (d0 d1 d2 d3 d4 d5 d6 d7 d8 : D) : runV cf (cO W4) [0, 1, 2] (sW3 yv rs ask z [d0, d1, d2, d3, d4, d5, d6, d7, d8]) = some (sW4 yv rs ask z [d0, d1, d2, d3, d4, d5, d6, d7, d8]) := by kernel_rfl
theorem W4_run (yv : Value) (rs : List (List D)) (ask : List D) (z : Int) (row : List D) (h : row.length = 9) : runV cf (cO W4) [0, 1, 2] (sW3 yv rs ask z row) = some (sW4 yv rs ask z row) := by
  match row, h with
  | [d0, d1, d2, d3, d4, d5, d6, d7, d8], _ => exact W4_run' yv rs ask z d0 d1 d2 d3 d4 d5 d6 d7 d8
theorem W4_3 : ∃ o, (cO W4)[3]? = some o ∧ o.dst = some 13 ∧ o.guard = none ∧ ∃ c, o.op = .call c ∧ c.callee = .value (.tmp 10) ∧ c.args = #[.tmp 11, .tmp 12] := ⟨_, rfl, rfl, rfl, _, rfl, rfl, rfl⟩
def sW5 (yv : Value) (rs : List (List D)) (nm : ByteArray) (flag : Bool) (fv : Value) (z : Int) (row : List D) : S := (sW4 yv rs (askD nm flag fv) z row).put (some 13) (.b true)
def sW6 (yv : Value) (rs : List (List D)) (nm : ByteArray) (flag : Bool) (fv : Value) (z : Int) (row : List D) : S := ((((((sW5 yv rs nm flag fv z row).put (some 14) (.b false)).put (some 15) (.b false)).put (some 16) (.c (.rp [.m (.bool flag), .m fv]))).put (some 17) (.b flag)).put (some 18) (.b !flag)).put (some 19) (.b !flag)
theorem W4_yes (yv : Value) (rs : List (List D)) (nm : ByteArray) (flag : Bool) (fv : Value) (z : Int) (row : List D) : runV cf (cO W4) [4, 5, 6, 7, 8, 9] (sW5 yv rs nm flag fv z row) = some (sW6 yv rs nm flag fv z row) := by
  cases flag <;> kernel_rfl
theorem W4_no : ∃ s', runV cf (cO W4) [4, 5, 6, 7, 8, 9] ⟨(List.replicate 20 (.c .dead)).set 13 (.b false), [], [], []⟩ = some s' ∧ s'.ev (.tmp 19) = some (.b true) ∧ s'.t.length = 20 :=
  ⟨((((((⟨(List.replicate 20 (.c .dead)).set 13 (.b false), [], [], []⟩ : S).put (some 14) (.b true)).put (some 15) (.b true)).put (some 16) (.tup [])).put (some 17) (.tup [])).put (some 18) (.tup [])).put (some 19) (.b true), by kernel_rfl, by kernel_rfl, by kernel_rfl⟩
/-- What the policy's closure hands over: all, from the last on; or the last alone. -/
def rowsW (flag : Bool) (rs : List (List D)) : List (List V) := bif flag then rowsB rs else (rowsB rs).take 1
theorem rowsB_inv {rs : List (List D)} {k : Nat} {vs : List V} (h : (rowsB rs)[k]? = some vs) : ∃ row, k < rs.length ∧ rs[rs.length - 1 - k]? = some row ∧ vs = [iV (Int.ofNat (rs.length - 1 - k)), .agg (row.map .d)] := by
  have hk : k < rs.length := by
    have := (List.getElem?_eq_some_iff.1 h).1
    simpa [rowsB] using this
  have hkl : rs.length - 1 - k < rs.length := by omega
  have hrow := List.getElem?_eq_getElem hkl
  rw [rowsB_get hk hrow] at h
  exact ⟨_, hk, hrow, (Option.some.inj h).symm⟩
theorem rowsW_get {flag : Bool} {rs : List (List D)} {k : Nat} {vs : List V} (h : (rowsB rs)[k]? = some vs) (hk : flag = false → k = 0) : (rowsW flag rs)[k]? = some vs := by
  cases flag with
  | true => exact h
  | false =>
    have := hk rfl
    subst this
    show ((rowsB rs).take 1)[0]? = _
    rw [List.getElem?_take]
    simpa using h
theorem agg_any {w : World} {E E' : Env} {ob ob' : Ref → Option Ob} {ds : List D} {u : Value} (hst : ∀ b x, E.st b x → E'.st b x) (h : Rv w E ob (.agg (ds.map .d)) u) : Rv w E' ob' (.agg (ds.map .d)) u := by
  obtain ⟨us, rfl, h2, h3⟩ := h
  refine ⟨us, rfl, h2, fun j x hj => ?_⟩
  obtain ⟨y, hy, hy1, hR⟩ := h3 j x hj
  rw [List.getElem?_map] at hj
  obtain ⟨d, hd, rfl⟩ := Option.map_eq_some_iff.1 hj
  obtain ⟨n, hn⟩ := hR
  exact ⟨y, hy, hy1, n, hn.le hst (fun _ _ _ => rfl)⟩
theorem m_any {w : World} {E E' : Env} {ob ob' : Ref → Option Ob} {v u : Value} (h : Rv w E ob (.m v) u) : Rv w E' ob' (.m v) u := by
  obtain ⟨⟨n, hn⟩, h1⟩ := h
  exact ⟨⟨0, by cases n <;> exact hn⟩, h1⟩
set_option maxRecDepth 100000 in
set_option maxHeartbeats 1000000 in
theorem with_goes {E : Env} {w : World} {n Bs Ba : Nat} {rs : List (List D)} {sv : Value} {nm : ByteArray} {flag : Bool} {fv : Value} (hs : E.st Bs 0) (hc : w.cell? ⟨Bs, 0, none⟩ = some sv) (hR : Rp w E.st n (.rows 9 rs) sv)
    (hask : Rc w E (fun _ => none) (.rp (askD nm flag fv)) (.pointer (some ⟨Ba, 0, none⟩))) (hhas : ∀ b x, E.st b x → (w.cell? ⟨b, x, none⟩).isSome = true) :
    Goes Tryz.prog 145 #[.pointer (some ⟨Bs, 0, none⟩), .pointer (some ⟨Ba, 0, none⟩)] ((rowsW flag rs).map (rowP w E)) w := by
  intro l K W Rn hW hY
  have hrl : rs.length ≤ maxLen ∧ ∀ r ∈ rs, r.length = 9 := by
    cases n with
    | zero => exact hR.elim
    | succ n => obtain ⟨A, c, _, h1, h2, _⟩ := hR; exact ⟨h1.2.1, h2⟩
  obtain ⟨yv, hyv⟩ : ∃ yv, yv = Value.func (.yield l) #[] #[] := ⟨_, rfl⟩
  have hcell : ∀ b x, E.st b x → W.cell? ⟨b, x, none⟩ = w.cell? ⟨b, x, none⟩ := fun b x h => World.cell?_of_block (hW.block b (cell_lt (hhas b x h)))
  have hno : ∀ {α : Prop} {r : Ref} {o : Ob}, obOf [] r = some o → α := fun {α r o} h => by cases r <;> cases h
  have hO : RelO W.heap.size (fun _ => False) E (obOf []) W := ⟨fun r o h => hno h, fun r r' o o' k h => hno h, fun r o k h => hno h, fun b x h => by rw [hcell b x h]; exact hhas b x h, Nat.le_refl _⟩
  have hPv : Pv W E (obOf []) [.m yv, .c (.rp [.rows 9 rs]), .c (.rp (askD nm flag fv))] [yv, .pointer (some ⟨Bs, 0, none⟩), .pointer (some ⟨Ba, 0, none⟩)] := by
    refine ⟨rfl, fun j x hj => ?_⟩
    match j, hj with
    | 0, hj => cases hj; exact ⟨_, rfl, m_R (by rw [hyv]; rfl)⟩
    | 1, hj =>
      cases hj
      refine ⟨_, rfl, ⟨n, Bs, 0, rfl, fun j x hj => ?_⟩, fun _ => rfl⟩
      match j, hj with
      | 0, hj => cases hj; exact ⟨hs, sv, (hcell _ _ hs).trans hc, hR.le (fun _ _ h => h) hcell⟩
    | 2, hj =>
      cases hj
      have hle : Le w E (fun _ => none) W E (obOf []) := ⟨fun _ _ h => h, hcell, fun r h => (by obtain ⟨o, h, _⟩ := h; cases h), fun r h => (by obtain ⟨o, h, _⟩ := h; cases h), fun r e sz n h => (by obtain ⟨o, h, _⟩ := h; cases h)⟩
      exact ⟨_, rfl, hask.le hle, fun _ => rfl⟩
  have hr0 := rel0 (n := 20) hO hPv
  have hbody : Tryz.f145.body = some wb := by kernel_rfl
  refine callsIn_wide.1 (callsIn_of_wp_marks (F := Fence.wide) (n := 0) Tryz.func145 hbody trivial ?_)
  obtain ⟨a0, ha0⟩ : ∃ a0 : Act, a0 = { tmps := [yv, Value.pointer (some ⟨Bs, 0, none⟩), Value.pointer (some ⟨Ba, 0, none⟩)].toArray ++ Array.replicate (20 - [yv, Value.pointer (some ⟨Bs, 0, none⟩), Value.pointer (some ⟨Ba, 0, none⟩)].toArray.size) undef, defers := [] } := ⟨_, rfl⟩
  rw [← ha0] at hr0
  have ea : ({ tmps := (#[Value.func (.yield l) #[] #[]] ++ #[Value.pointer (some ⟨Bs, 0, none⟩), Value.pointer (some ⟨Ba, 0, none⟩)]) ++ Array.replicate (Tryz.f145.ntmps - (#[Value.func (.yield l) #[] #[]] ++ #[Value.pointer (some ⟨Bs, 0, none⟩), Value.pointer (some ⟨Ba, 0, none⟩)]).size) undef, defers := [] } : Act) = a0.wd [] := by
    rw [ha0, hyv]; rfl
  rw [ea, wb_eq]
  have hr0 : Rel W.heap.size (fun _ => False) E (sW0 yv rs (askD nm flag fv)) a0 W := hr0
  have hoN : OKo Tryz.prog oN := none_ok
  obtain ⟨RR, hRR⟩ : ∃ RR : Ending → World → Prop, RR = fun e W2 => (∃ v, e = .returned v) ∧ (((List.map (rowP w E) (rowsW flag rs)).length ≤ K ∧ Below W.heap.size W W2) ∨ ∃ k W1 W', k < (List.map (rowP w E) (rowsW flag rs)).length ∧ Below W.heap.size W W1 ∧ W1.heap.size ≤ W'.heap.size ∧ Rn k W1 W' ∧ Mid W.heap.size W1.heap.size W' W2) := ⟨_, rfl⟩
  rw [← hRR]
  have hW0 : exec cf oN 10 W0c (sW0 yv rs (askD nm flag fv)) = some (.nx (sW1 yv rs (askD nm flag fv))) := by rw [hyv]; exact W0_exec l rs _
  have hW1 : exec cf oW 10 W1c (sW1 yv rs (askD nm flag fv)) = some (.nx (sW2 yv rs (askD nm flag fv))) := by rw [hyv]; exact W1_exec l rs _
  refine wpIn_seq (exec_in (ro := none) (cf := cf) good.ti rfl hoN 10 W_flat.1 hW0 hr0 (fun E1 a1 W1 k1 k2 k3 k4 => ?_))
  refine wpIn_seq (exec_in (ro := none) (cf := cf) good.ti rfl oW_ok 10 W_flat.2.1 hW1 k1 (fun E2 a2 W2 j1 j2 j3 j4 => ?_))
  refine wpIn_block ?_
  have fW := k2.trans j2
  have nW := k3.trans j3
  have hBW : Below W.heap.size W W2 := ⟨fW.os, fW.tape, fW.output, fW.size, fun q hq => fW.block q hq (fun h => h)⟩
  have hv := view_ok j1
  obtain ⟨us, hu1, hu2, hu3, _⟩ := j1.objs (.loc 1) (.box 62 [.d (.rows 9 rs)]) rfl
  obtain ⟨y, hy, hy1, n2, hRy⟩ := hu3 0 _ rfl
  have hback := back_goes (E := ⟨E2.b, E2.v, stB E2 (sW2 yv rs (askD nm flag fv)).get⟩) (w := W2) (Bs := E2.b (.loc 1)) (rs := rs) (sv := y) (n := n2)
    (.inr ⟨.loc 1, 62, [.d (.rows 9 rs)], rfl, rfl, by simp⟩) (by simp [World.cell?, hu1, hy]) (hRy.le (fun _ _ h => .inl h) (fun _ _ _ => rfl)) hv.has
  have e7 : (a2.wd []).eval (.tmp 7) = .func (.func 196) #[] #[.pointer (some ⟨E2.b (.loc 1), 0, none⟩)] := by
    have := (ev_sound j1 (x := .tmp 7) (v := .c (.fn 196 [.loc 1])) rfl).1.2
    exact this
  have eg : ∀ (args : Array Value) (w : World), (callFunc 196 args).run Tryz.prog w = .ok (.enter 196 args) w := fun args w => run_enter Tryz.func196 (good.named 196 _ Tryz.func196) (show Tryz.f196.body = some bb from by kernel_rfl) args w
  obtain ⟨Rx, hRx⟩ : ∃ Rx : Nat → World → Code → World → Prop, Rx = fun k Wr c W' => c = .ret ∧ ((∃ Wc, Wr.heap.size ≤ Wc.heap.size ∧ k < (rowsW flag rs).length ∧ Below W.heap.size W Wc ∧ Wc.heap.size ≤ W'.heap.size ∧ Rn k Wc W') ∨ (flag = false ∧ 0 < K ∧ 0 < rs.length ∧ Below W.heap.size W W')) := ⟨_, rfl⟩
  have hszW := hBW.size
  have hlenB : (rowsB rs).length = rs.length := by simp [rowsB]
  have leave : ∀ (W3 : World) (tmps : Array Value), W3.heap[W2.heap.size]? = some (.deferred (some [])) → RR (.returned (.tuple #[])) (W3.putObj W2.heap.size (.deferred none)) → LeavesInM Fence.wide 0 Tryz.prog Tryz.f145 tmps RR [{ target := .collected W2.heap.size, args := #[] }] .returning W3 :=
    fun W3 tmps hD hRet => ⟨by simp, .inl ⟨_, _, rfl, run_takeDeferred hD, ⟨_, results_none rfl _ _ _, hRet⟩⟩⟩
  refine rf_wp (m := 0) e7 eg hback ?_ Rx (bif flag then K else 0) ?_ ?_ ?_
  · -- the rows' lengths
    intro p hp row Wq hrow
    obtain ⟨vs, hvs, rfl⟩ := List.mem_map.1 hp
    obtain ⟨k, hk⟩ := List.mem_iff_getElem?.1 hvs
    obtain ⟨row', _, _, rfl⟩ := rowsB_inv hk
    obtain ⟨_, _, _, _, hrow⟩ := hrow
    have := hrow.1
    simpa using this
  · -- a round
    rintro k p row Wr m' hp hrow hkK hB hsz ⟨rL, hL⟩ ⟨rD, hD⟩
    rw [List.getElem?_map] at hp
    obtain ⟨vs, hvs, rfl⟩ := Option.map_eq_some_iff.1 hp
    obtain ⟨row', hkl, hrs, hvse⟩ := rowsB_inv hvs
    obtain ⟨st1, g1, g2, g3, hpv⟩ := hrow
    have h9 := hrl.2 _ (List.mem_of_getElem? hrs)
    have hown : ∀ (E' : Env) q, ¬ ownAt E' (frzS (sW2 yv rs (askD nm flag fv))).get q := fun E' q ⟨r', o, h1, _⟩ => by rw [frzS_get] at h1; cases h1
    have hA1 := (hv.below (w' := Wr) hB).1
    have hA2 := (hA1.more (st1 := st1) g1 (fun b x _ => .inr (hown _ b)) g3).1
    have hA3 := hA2.reN (N' := Wr.heap.size) (outs' := fun _ => False) (Nat.le_refl _) (fun q hq => absurd hq (hown _ q))
    have hge : (frzS (sW2 yv rs (askD nm flag fv))).get = fun _ => none := funext (frzS_get _)
    have hA4 := rel_puts (ps := [8, 9]) hA3 hpv.1.symm (fun j x hj => by rw [hge]; exact hpv.2 j x hj)
    have htmps : ((#[8, 9].zip row).foldl (fun t (p, v) => t.setIfInBounds p v) (a2.wd []).tmps) = ([8, 9].zip row.toList).foldl (fun t (p, v) => t.setIfInBounds p v) (a2.wd []).tmps := by
      rw [← Array.foldl_toList, Array.toList_zip]
    rw [htmps]
    have hWA : exec cf oN 10 WA (putsL ([8, 9].zip vs) (frzS (sW2 yv rs (askD nm flag fv)))) = some (.nx (sW3 yv rs (askD nm flag fv) (Int.ofNat (rs.length - 1 - k)) row')) := by
      rw [hvse, hyv]; exact WA_exec l rs _ _ row' h9
    refine exec_in (ro := some (W2.heap.size + 1)) (n := m') (ds := []) (cf := cf) good.ti rfl hoN 10 W_flat.2.2 hWA hA4 (fun E3 a3 W3 p1 p2 p3 p4 => ?_)
    have hs3 := p2.size
    have hsB := hB.size
    refine ⟨⟨p2.size, p2.block _ hsz (fun h => h), p2.block _ (by omega) (fun h => h)⟩, fun r' => ?_⟩
    have hL3 : W3.heap[W2.heap.size + 1]? = some (.loop rL) := (p2.block _ hsz (fun h => h)).trans hL
    obtain ⟨p1', _⟩ := p1.beside (w' := W3.putObj (W2.heap.size + 1) (.loop r')) (by simp) (fun q hq => World.putObj_heap_other (fun e => by
      subst e
      rcases hq with ⟨r2, o2, h1, h2⟩ | ⟨x, hx⟩
      · rcases p1.mine r2 o2 _ h1 h2 with h | h
        · omega
        · exact h
      · exact st_obj p1 hx hL3 rfl))
    obtain ⟨Wp, hWp⟩ : ∃ Wp, Wp = W3.putObj (W2.heap.size + 1) (.loop r') := ⟨_, rfl⟩
    rw [← hWp] at p1' ⊢
    have hsp : Wp.heap.size = W3.heap.size := by rw [hWp]; simp
    have hp3 : ∀ q, q < Wr.heap.size → q ≠ W2.heap.size + 1 → Wp.heap[q]? = Wr.heap[q]? := fun q hq hne => by
      rw [hWp, World.putObj_heap_other hne]; exact p2.block q hq (fun h => h)
    have hBr : Below Wr.heap.size Wr W3 := ⟨p2.os, p2.tape, p2.output, p2.size, fun q hq => p2.block q hq (fun h => h)⟩
    have hBp : Below W.heap.size W Wp := by
      have h1 : Below W.heap.size W W3 := hBW.trans ((hB.mono hszW).trans (hBr.mono (by omega)))
      rw [hWp]
      exact h1.trans ⟨rfl, rfl, rfl, by simp, fun q hq => World.putObj_heap_other (by omega)⟩
    refine wpIn_block (wpIn_seq ?_)
    rw [W4_eq.1]
    refine wpIn_region ?_
    rw [W4_eq.2.2]
    refine runV_pre (ro := some (W2.heap.size + 1)) (cf := cf) good.ti rfl W4_eq.2.1 (W4_run yv rs _ _ row' h9) p1' (fun a6 r6 => ?_)
    obtain ⟨o3, ho3, hd3, hg3, c3, hop3, hc3, hca3⟩ := W4_3
    have ey : a6.eval (.tmp 10) = .func (.yield l) #[] #[] := by rw [← hyv]; exact (ev_m r6 (x := .tmp 10) (by kernel_rfl)).1
    have hkf : flag = false → k = 0 := fun hf => by rw [hf] at hkK; exact Nat.le_zero.1 hkK
    have hkK' : k ≤ K := by cases flag with
      | true => exact hkK
      | false => have := hkf rfl; omega
    have hwW := hW.size
    have hst3 : ∀ b x, E3.st b x → E.st b x ∨ w.heap.size ≤ b := by
      intro b x h
      rcases p3 b x h with h | h | h
      · rcases g2 b x h with h | h
        · rcases h with h | ⟨r, e, cs, hr1, rfl, _⟩
          · rcases nW b x h with h | h | h
            · exact .inl h
            · exact .inr (by omega)
            · exact h.elim
          · rcases j1.mine r _ (E2.b r) hr1 rfl with h | h
            · exact .inr (by omega)
            · exact h.elim
        · exact .inr (by omega)
      · exact .inr (by omega)
      · exact h.elim
    have hst0 : ∀ b x, E.st b x → E3.st b x := fun b x h => p4.st b x (g1 b x (.inl (j4.st b x (k4.st b x h))))
    have e12 : Rv Wp E3 (sW4 yv rs (askD nm flag fv) (Int.ofNat (rs.length - 1 - k)) row').get (.agg (row'.map .d)) (a6.eval (.tmp 12)) := ev_sound r6 (x := .tmp 12) (by kernel_rfl)
    have hrowP : rowP w E vs #[a6.eval (.tmp 11), a6.eval (.tmp 12)] Wp := by
      refine ⟨E3.st, hst0, hst3, r6.has, ?_⟩
      rw [hvse]
      refine ⟨rfl, fun j x hj => ?_⟩
      match j, hj with
      | 0, hj => cases hj; exact ⟨_, rfl, m_any (ev_sound r6 (x := .tmp 11) (by kernel_rfl))⟩
      | 1, hj => cases hj; exact ⟨_, rfl, agg_any (E := E3) (fun _ _ h => h) e12⟩
    have hvW := rowsW_get (flag := flag) hvs hkf
    obtain ⟨fn, tmps, assign, body, hy, hRound⟩ := hY k _ _ Wp (m' - 1) (by rw [List.getElem?_map, hvW]; rfl) hrowP hkK' hBp
    have hsz6 : a6.tmps.size = 20 := by rw [← r6.size]; kernel_rfl
    refine opsIn_one ho3 hg3 ⟨fun _ _ => trivial, ?_⟩
    show o3.uponIn (fen (some (W2.heap.size + 1))) m' Tryz.prog (a6.wd []) _ _ ((o3.semAt (some (W2.heap.size + 1)) (a6.wd []).eval).run Tryz.prog Wp)
    rw [semAt_fen (by intro c hc; rw [hop3] at hc; cases hc), run_yieldOp (a := a6.wd []) hop3 hc3 hca3 ey hy, Oper.uponIn_round]
    refine ⟨fun h => by simp [Fence.wide] at h, RoundIn.mono (R := _) (show RoundIn (fen (some (W2.heap.size + 1))) (m' - 1) Tryz.prog l fn tmps assign body Wp _ from hRound) ?_⟩
    rintro e W5 (⟨rfl, hkK2, hB5⟩ | ⟨rfl, hs5, hmid, hrn⟩)
    · -- yes
      have r7 := rel_put (r6.below (w' := W5) hB5).1 (v := .b true) (u := .bool true) (m_R rfl) (some 13)
      have hput : (a6.wd []).put o3.dst (.bool true) = (a6.put (some 13) (.bool true)).wd [] := by rw [hd3]; rfl
      show wpOpsIn (fen (some (W2.heap.size + 1))) m' Tryz.prog (cO W4) _ [4, 5, 6, 7, 8, 9] ((a6.wd []).put o3.dst (.bool true)) W5
      rw [hput]
      have := runV_pre (is2 := []) (ro := some (W2.heap.size + 1)) (n := m') (ds := []) (cf := cf) (Q := Exit.then (Code.wpIn (Fence.wide.inRound (W2.heap.size + 1)) m' Tryz.prog (Code.cond (.tmp 19) .ret .skip) (Exit.inBlock 1 (rPost Rx (bif flag then K else 0) (W2.heap.size + 1) k Wr W3 Wp))) (Exit.inBlock 1 (rPost Rx (bif flag then K else 0) (W2.heap.size + 1) k Wr W3 Wp))) good.ti rfl W4_eq.2.1 (W4_yes yv rs nm flag fv _ row') r7 (fun a8 r8 => ?_)
      · rw [List.append_nil] at this
        exact this
      · have hb8 := ev_bool r8 (c := .tmp 19) (b := !flag) (by kernel_rfl)
        refine wpIn_cond (t := !flag) hb8 ?_
        cases flag with
        | true =>
          refine wpIn_skip ?_
          exact ⟨hkK2, hBr, hB5.mono (by omega)⟩
        | false =>
          refine wpIn_ret ?_
          refine ⟨⟨hB5.size, hB5.block _ (by omega), hB5.block _ (by omega)⟩, fun q hq1 hq2 => (hB5.block q (by omega)).trans (hp3 q hq2 (by omega)), ?_⟩
          rw [hRx]
          exact ⟨rfl, .inr ⟨rfl, by omega, by omega, hBp.trans (hB5.mono (by have := hBp.size; omega))⟩⟩
    · -- no
      have hput : (a6.wd []).put o3.dst (.bool false) = (a6.put (some 13) (.bool false)).wd [] := by rw [hd3]; rfl
      show wpOpsIn (fen (some (W2.heap.size + 1))) m' Tryz.prog (cO W4) _ [4, 5, 6, 7, 8, 9] ((a6.wd []).put o3.dst (.bool false)) W5
      rw [hput]
      have hA : Rel W5.heap.size (fun _ => False) _ _ ((a6.put (some 13) (.bool false)).wd []) W5 := rel_triv (i := 13) (m := 20) rfl (by show (a6.put (some 13) (.bool false)).tmps.size = 20; rw [put_size]; exact hsz6) (by decide) (eval_put_self (a := a6) (d := 13) (by omega))
      obtain ⟨sT, hT, hT19, _⟩ := W4_no
      have := runV_pre (is2 := []) (ro := some (W2.heap.size + 1)) (n := m') (ds := []) (cf := cf) (Q := Exit.then (Code.wpIn (Fence.wide.inRound (W2.heap.size + 1)) m' Tryz.prog (Code.cond (.tmp 19) .ret .skip) (Exit.inBlock 1 (rPost Rx (bif flag then K else 0) (W2.heap.size + 1) k Wr W3 Wp))) (Exit.inBlock 1 (rPost Rx (bif flag then K else 0) (W2.heap.size + 1) k Wr W3 Wp))) good.ti rfl W4_eq.2.1 hT hA (fun a8 r8 => ?_)
      · rw [List.append_nil] at this
        exact this
      · refine wpIn_cond (t := true) (ev_bool r8 hT19) (wpIn_ret ?_)
        refine ⟨⟨hs5, hmid _ (by omega) (by omega), hmid _ (by omega) (by omega)⟩, fun q hq1 hq2 => (hmid q (by omega) (by omega)).trans (hp3 q hq2 (by omega)), ?_⟩
        rw [hRx]
        exact ⟨rfl, .inl ⟨Wp, by omega, (List.getElem?_eq_some_iff.1 hvW).1, hBp, hs5, hrn⟩⟩
  · -- all have come
    intro W3 hlK hB hD
    have hB3 : Below W.heap.size W W3 := hBW.trans (hB.mono hszW)
    refine leave W3 _ hD ?_
    rw [hRR]
    refine ⟨⟨_, rfl⟩, .inl ⟨?_, hB3.trans ⟨rfl, rfl, rfl, by simp, fun q hq => World.putObj_heap_other (by omega)⟩⟩⟩
    rw [List.length_map] at hlK ⊢
    cases flag with
    | true => exact hlK
    | false =>
      have hlK : (rowsB rs).length ≤ 0 := hlK
      show ((rowsB rs).take 1).length ≤ K
      rw [List.length_take]
      omega
  · -- left
    intro k Wr c W' W3 hk hB hsz hsW hx hM hD
    rw [hRx] at hx
    obtain ⟨rfl, hx⟩ := hx
    refine wpIn_ret (leave W3 _ hD ?_)
    rw [hRR]
    rcases hx with ⟨Wc, x1, x2, x3, x4, x5⟩ | ⟨hf, x1, x2, x3⟩
    · refine ⟨⟨_, rfl⟩, .inr ⟨k, Wc, W', by rw [List.length_map]; exact x2, x3, x4, x5, ?_⟩⟩
      have m1 : Mid W.heap.size Wc.heap.size W' W3 := ⟨hM.os, hM.tape, hM.output, hM.size, fun q hq h => hM.block q hq (by
        rcases h with h | h | h
        · exact .inl (by omega)
        · exact .inr (.inl (by omega))
        · exact .inr (.inr h))⟩
      exact m1.trans (Mid.put _ hszW (by omega) hD rfl)
    · refine ⟨⟨_, rfl⟩, .inl ⟨?_, x3.trans ⟨hM.os, hM.tape, hM.output, by simpa using hM.size, fun q hq => ?_⟩⟩⟩
      · rw [List.length_map, hf]
        show ((rowsB rs).take 1).length ≤ K
        rw [List.length_take]
        omega
      · have := x3.size
        rw [World.putObj_heap_other (by omega)]
        exact hM.block q (by omega) (.inl (by omega))
end Go.Vx.Tz
namespace Go.Vx
open Go Go.Proofs Go.RowKit
/-- A few codes, one after another. -/
def execs (cf : Cfg) (orc : Orc) (fuel : Nat) : List Code → S → Option Res
  | [], s => some (.nx s)
  | c :: cs, s => match exec cf orc fuel c s with
    | some (.nx s') => execs cf orc fuel cs s'
    | r => r
def seqs : List Code → Code → Code
  | [], t => t
  | c :: cs, t => .seq c (seqs cs t)
def endE (cf : Cfg) (f : FuncId) (fn : Func) (r : Option Res) : Option (Out × List Ob) := match r with
  | some (.nx s) | some (.rt s) => match s.d with
    | [] => retE cf f fn s
    | _ => none
  | _ => none
/-- A function whose body is pre, a loop over a function, post. -/
structure RFn where
  f : FuncId
  fn : Func
  pre : List Code
  c4 : Code
  id : Nat
  g : Operand
  ps : Array Tmp
  ca : Code
  cb : Code
  post : Code
  rowsAt : S → Option (S × List (List V))
def RFn.body (r : RFn) : Code := seqs r.pre (.seq (.seq r.c4 (.block r.id (.rangeFunc r.g r.ps r.ca r.cb))) r.post)
structure RFn.Ok (P : Program) (r : RFn) : Prop where
  hf : P.funcs[r.f]? = some r.fn
  hb : r.fn.body = some r.body
  pre : ∀ c ∈ r.pre, codeOk c = true
  c4 : codeOk r.c4 = true
  ca : flat r.ca = true
  cb : flat r.cb = true
  post : flat r.post = true
  rows : ∀ (s s' : S) (rows : List (List V)), r.rowsAt s = some (s', rows) → ∀ (N : Nat) (outs : Nat → Prop) (E : Env) (a : Act) (w : World), Rel N outs E s a w → ∃ E', Rel N outs E' s' a w ∧ Sn N outs E E' ∧ Le w E s.get w E' s'.get ∧ s'.d = s.d ∧
    ∃ gf lb, a.eval r.g = .func (.func gf) #[] lb ∧ (∀ args w, (callFunc gf args).run P w = .ok (.enter gf args) w) ∧ Goes P gf lb (rows.map (rowP w E')) w ∧ ∀ vs ∈ rows, vs.length = r.ps.size
def rfO (r : RFn) (cf : Cfg) (orc : Orc) (fuel : Nat) : Orc := fun f args objs => match Nat.beq f r.f, objs with
  | true, [] => match execs cf orc fuel (r.pre ++ [r.c4]) ⟨args ++ List.replicate (r.fn.ntmps - args.length) (.c .dead), [], [], []⟩ with
    | some (.rt s) => endE cf r.f r.fn (some (.rt s))
    | some (.nx s) => match s.d, r.rowsAt s with
      | [], some (s', rows) => match loopE cf orc fuel r.ps.toList r.ca r.cb s' rows with
        | some none => endE cf r.f r.fn (exec cf orc fuel r.post s')
        | some (some (.ret, s2)) => endE cf r.f r.fn (some (.rt ⟨s'.t, s2.l, s2.o, []⟩))
        | _ => none
      | _, _ => none
    | _ => none
  | _, _ => none
section
variable {P : Program} {N N' : Nat} {outs outs' : Nat → Prop} {E E' : Env} {s s' : S} {a : Act} {w w' : World} {orc : Orc} {cf : Cfg} {fuel n : Nat} {Q : Exit → Act → World → Prop}
theorem execs_append : ∀ {cs : List Code} {c : Code} {s : S} {R : Res}, execs cf orc fuel (cs ++ [c]) s = some R → (∃ s1, execs cf orc fuel cs s = some (.nx s1) ∧ exec cf orc fuel c s1 = some R) ∨ (execs cf orc fuel cs s = some R ∧ ∀ s1, R ≠ .nx s1)
  | [], c, s, R, h => by
    refine .inl ⟨s, rfl, ?_⟩
    simp only [List.nil_append, execs] at h
    split at h
    · rename_i s' hx; cases h; exact hx
    · exact h
  | c0 :: cs, c, s, R, h => by
    simp only [List.cons_append, execs] at h ⊢
    split at h
    · exact execs_append h
    · rename_i hne
      exact .inr ⟨h, fun s1 hR => by subst hR; exact hne s1 h⟩
theorem execs_in (hti : TIok P cf.ti) (hP : cf.P = P) (ok : OKo P orc) (hd : DrawnOk P cf orc) : ∀ {cs : List Code} {s : S} {R : Res} {E : Env} {a : Act} {w : World} {tail : Code}, (∀ c ∈ cs, codeOk c = true) → execs cf orc fuel cs s = some R → Rel N outs E s a w →
    ResQ N outs E w s.o (Exit.then (tail.wpIn Fence.wide n P Q) Q) R → (seqs cs tail).wpIn Fence.wide n P Q a w
  | [], s, R, E, a, w, tail, hc, h, hr, hQ => by
    cases h
    exact hQ E a w hr (Fr.refl w) (Sn.refl E) (Le.refl _ _ _)
  | c :: cs, s, R, E, a, w, tail, hc, h, hr, hQ => by
    simp only [execs] at h
    refine wpIn_seq (wpIn_wide.2 ?_)
    have hc0 := hc c (.head _)
    split at h
    · rename_i s' hx
      exact exec_wp hti hP ok hd fuel hc0 hx hr (fun E1 a1 w1 k1 k2 k3 k4 => execs_in hti hP ok hd (fun c h => hc c (.tail _ h)) h k1 (hQ.go k2 k3 k4))
    · rename_i hne
      refine exec_wp hti hP ok hd fuel hc0 h hr ?_
      cases R with
      | nx s' => exact absurd h (hne s')
      | ex id s' => exact hQ
      | rt s' => exact hQ
      | pn x s' => exact hQ
end
set_option maxHeartbeats 1000000 in
theorem rfO_ok {P : Program} {cf : Cfg} {orc : Orc} (g : Good P cf) (ok : OKo P orc) {r : RFn} (hr' : r.Ok P) (fuel : Nat) : OKo P (rfO r cf orc fuel) := by
  intro f args objs out objs' h w E us hr hv
  unfold rfO at h
  split at h
  case h_2 => cases h
  rename_i hf
  have : f = r.f := Nat.eq_of_beq_eq_true hf
  subst this
  have hd := drawn_ok g.ti g.prog g.mixed ok
  suffices hcalls : Calls P r.f us.toArray w (CallPost w E [] objs' out) by
    unfold Does
    rw [run_enter hr'.hf (g.named _ _ hr'.hf) hr'.hb]
    exact hcalls
  refine callsIn_wide.1 (callsIn_of_wp_marks (F := Fence.wide) (n := 0) hr'.hf hr'.hb trivial ?_)
  have hr0 := rel0 (n := r.fn.ntmps) hr hv
  obtain ⟨a0, ha0⟩ : ∃ a0 : Act, a0 = { tmps := us.toArray ++ Array.replicate (r.fn.ntmps - us.toArray.size) undef, defers := [] } := ⟨_, rfl⟩
  rw [← ha0] at hr0 ⊢
  obtain ⟨Qb, hQb⟩ : ∃ Qb, Qb = bodyPostM Fence.wide 0 P r.fn (CallPost w E [] objs' out) := ⟨_, rfl⟩
  rw [← hQb]
  -- the way out
  have fin : ∀ {s : S} {a : Act} {w1 w' : World} {E1 E' : Env} {o1 : List Ob}, retE cf r.f r.fn s = some (out, objs') → Rel w.heap.size (ownBy E []) E' s a w' → Fr w.heap.size (ownBy E []) w w1 → Sn w.heap.size (ownBy E []) E E1 → LeO w E [] w1 E1 o1 → Fr w.heap.size (ownBy E []) w1 w' → Sn w.heap.size (ownBy E []) E1 E' → LeO w1 E1 o1 w' E' s.o →
      ∃ v, (results r.fn a.tmps).run P w' = .ok v w' ∧ CallPost w E [] objs' out (.returned v) w' := by
    intro s a w1 w' E1 E' o1 hret k1 p2 n7 l7 k2 k3 k4
    obtain ⟨v, hv, E2, j1, j2, j3, j4⟩ := retE_sound (cf := cf) g.ti k1 hret
    exact ⟨v, hv, CallPost.of (p2.trans k2) (n7.trans k3) (Le.trans l7 k4) (Fr.refl _) j2 j3 j1 j4⟩
  have plain : ∀ {s : S} {a : Act} {w' : World} {E' : Env}, s.d = [] → retE cf r.f r.fn s = some (out, objs') → Rel w.heap.size (ownBy E []) E' s a w' → Fr w.heap.size (ownBy E []) w w' → Sn w.heap.size (ownBy E []) E E' → LeO w E [] w' E' s.o →
      LeavesInM Fence.wide 0 P r.fn a.tmps (CallPost w E [] objs' out) a.defers .returning w' := by
    intro s a w' E' hsd hret k1 k2 k3 k4
    have hde := k1.defers.1
    rw [hsd] at hde
    rw [List.length_eq_zero_iff.1 hde]
    obtain ⟨v, hv, hp⟩ := fin hret k1 k2 k3 k4 (Fr.refl _) (Sn.refl _) (Le.refl _ _ _)
    exact ⟨v, hv, hp⟩
  have hx : ∃ R, execs cf orc fuel (r.pre ++ [r.c4]) ⟨args ++ List.replicate (r.fn.ntmps - args.length) (.c .dead), [], [], []⟩ = some R ∧ ((∃ s, R = .rt s ∧ endE cf r.f r.fn (some (.rt s)) = some (out, objs')) ∨ ∃ s s' rows, R = .nx s ∧ s.d = [] ∧ r.rowsAt s = some (s', rows) ∧
      ((loopE cf orc fuel r.ps.toList r.ca r.cb s' rows = some none ∧ endE cf r.f r.fn (exec cf orc fuel r.post s') = some (out, objs')) ∨ ∃ s2, loopE cf orc fuel r.ps.toList r.ca r.cb s' rows = some (some (.ret, s2)) ∧ endE cf r.f r.fn (some (.rt ⟨s'.t, s2.l, s2.o, []⟩)) = some (out, objs'))) := by
    split at h
    · rename_i s hs
      exact ⟨_, hs, .inl ⟨s, rfl, h⟩⟩
    · rename_i s hs
      split at h
      case h_2 => cases h
      rename_i hsd hrow
      rename_i s' rows
      refine ⟨_, hs, .inr ⟨s, s', rows, rfl, hsd, hrow, ?_⟩⟩
      split at h
      · exact .inl ⟨‹_›, h⟩
      · exact .inr ⟨_, ‹_›, h⟩
      · cases h
    · cases h
  clear h
  obtain ⟨R, hx, hR⟩ := hx
  have hend : ∀ {s : S}, endE cf r.f r.fn (some (.rt s)) = some (out, objs') → s.d = [] ∧ retE cf r.f r.fn s = some (out, objs') := by
    intro s h
    simp only [endE] at h
    split at h
    · exact ⟨‹_›, h⟩
    · cases h
  unfold RFn.body
  -- the loop and what is behind it
  have loop : ∀ (s : S) (E1 : Env) (a1 : Act) (w1 : World), R = .nx s → Rel w.heap.size (ownBy E []) E1 s a1 w1 → Fr w.heap.size (ownBy E []) w w1 → Sn w.heap.size (ownBy E []) E E1 → LeO w E [] w1 E1 s.o →
      (Code.block r.id (.rangeFunc r.g r.ps r.ca r.cb)).wpIn Fence.wide 0 P (Exit.then (r.post.wpIn Fence.wide 0 P Qb) Qb) a1 w1 := by
    intro s E1 a1 w1 hRs k1 k2 k3 k4
    rcases hR with ⟨s0, hs0, _⟩ | ⟨s0, s', rows, hs0, hsd, hrow, hloop⟩
    · rw [hs0] at hRs; cases hRs
    rw [hs0] at hRs
    cases hRs
    obtain ⟨E2, j1, j3, j4, hsd', gf, lb, hg, eg, hgo, hps⟩ := hr'.rows _ _ _ hrow _ _ _ _ _ k1
    have hsd2 : s'.d = [] := hsd'.trans hsd
    have had : a1.defers = [] := by
      have := j1.defers.1
      rw [hsd2] at this
      exact List.length_eq_zero_iff.1 this
    have n2 := k3.trans j3
    have l2 : LeO w E [] w1 E2 s'.o := Le.trans k4 (Le.toO j4)
    have hlow := j1.low
    have hnoD : ∀ {E' : Env} {s : S} {a : Act} {W : World}, True := fun {_ _ _ _} => trivial
    refine wpIn_block ?_
    have leave : ∀ (s3 : S) (E3 E4 : Env) (a3 : Act) (W3 W4 : World) (o3 : List Ob), retE cf r.f r.fn s3 = some (out, objs') → Rel w.heap.size (ownBy E []) E4 s3 a3 W4 → W4.heap[w1.heap.size]? = some (.deferred (some [])) → ¬ ownAt E4 s3.get w1.heap.size →
        Fr w.heap.size (ownBy E []) w1 W3 → Sn w.heap.size (ownBy E []) E2 E3 → LeO w1 E2 s'.o W3 E3 o3 → Fr w.heap.size (ownBy E []) W3 W4 → Sn w.heap.size (ownBy E []) E3 E4 → LeO W3 E3 o3 W4 E4 s3.o →
        LeavesInM Fence.wide 0 P r.fn a3.tmps (CallPost w E [] objs' out) [{ target := .collected w1.heap.size, args := #[] }] .returning W4 := by
      intro s3 E3 E4 a3 W3 W4 o3 hret q1 hD hno f1 g1 l1 f2 g2 l3
      have hst : ∀ x, ¬ E4.st w1.heap.size x := fun x hx => st_obj q1 hx hD rfl
      obtain ⟨q1', l4⟩ := q1.beside (w' := W4.putObj w1.heap.size (.deferred none)) (by simp) (fun k hk => World.putObj_heap_other (fun e => by
        subst e
        rcases hk with hk | ⟨x, hx⟩
        · exact hno hk
        · exact hst x hx))
      have fp : Fr w.heap.size (ownBy E []) W4 (W4.putObj w1.heap.size (.deferred none)) := ⟨rfl, rfl, rfl, by simp, fun k hk _ => World.putObj_heap_other (by omega)⟩
      refine ⟨by simp, .inl ⟨_, _, rfl, run_takeDeferred hD, ?_⟩⟩
      obtain ⟨v, hv, hp⟩ := fin hret q1' (k2.trans (f1.trans (f2.trans fp))) (n2.trans (g1.trans g2)) (Le.trans l2 (Le.trans l1 (Le.trans l3 (Le.toO l4)))) (Fr.refl _) (Sn.refl _) (Le.refl _ _ _)
      exact ⟨v, hv, hp⟩
    obtain ⟨rr, hrr⟩ : ∃ rr, loopE cf orc fuel r.ps.toList r.ca r.cb s' rows = some rr := by
      rcases hloop with ⟨h, _⟩ | ⟨s2, h, _⟩ <;> exact ⟨_, h⟩
    have hown1 : ¬ ownAt E2 s'.get w1.heap.size := fun h => by have := own_lt j1 h; omega
    refine rf_rel (m := 0) g.ti g.prog ok j1 had hsd2 hg eg hgo hps hr'.ca hr'.cb hrr ?_ ?_
    · -- all have come
      intro hrn W q1 q2 q4 hD
      rw [hrn] at hrr
      rcases hloop with ⟨_, h⟩ | ⟨s2, h, _⟩
      case inr => rw [hrr] at h; cases h
      cases hp : exec cf orc fuel r.post s' with
      | none => rw [hp] at h; cases h
      | some R2 =>
      rw [hp] at h
      have hW := (Array.getElem?_eq_some_iff.1 hD).1
      have q1' := q1.reN (N' := W.heap.size) (outs' := ownAt E2 s'.get) (Nat.le_refl _) (fun k hk => .inr hk)
      have goal : ∀ (s3 : S), endE cf r.f r.fn (some (.rt s3)) = some (out, objs') → ∀ E3 a3 W3, Rel W.heap.size (ownAt E2 s'.get) E3 s3 a3 W3 → Fr W.heap.size (ownAt E2 s'.get) W W3 → Sn W.heap.size (ownAt E2 s'.get) E2 E3 → Le W E2 s'.get W3 E3 s3.get →
          LeavesInM Fence.wide 0 P r.fn a3.tmps (CallPost w E [] objs' out) [{ target := .collected w1.heap.size, args := #[] }] .returning W3 := by
        intro s3 h3 E3 a3 W3 p1 p2 p3 p4
        obtain ⟨_, hret⟩ := hend h3
        have hs3 := p2.size
        refine leave s3 E2 E3 a3 W W3 s'.o hret (Rel.back q1 (by omega) p1) ((p2.block _ hW hown1).trans hD) (fun h => ?_) q2 (Sn.refl _) (Le.toO q4) (Fr.back q1 p2) (fun b x hx => ?_) (Le.toO p4)
        · rcases ownAt_sub p1 h with h | h
          · omega
          · exact hown1 h
        · rcases p3 b x hx with h | h | h
          · exact .inl h
          · exact .inr (.inl (by have := q1.low; omega))
          · exact .inr (ownAt_sub q1 h)
      have := exec_in (ro := none) (n := 0) (ds := [{ target := .collected w1.heap.size, args := #[] }]) (Q := Qb) g.ti g.prog ok fuel hr'.post hp q1' (by
        rw [hQb]
        cases R2 with
        | nx s3 => exact fun E3 a3 W3 p1 p2 p3 p4 => goal s3 h E3 a3 W3 p1 p2 p3 p4
        | rt s3 => exact fun E3 a3 W3 p1 p2 p3 p4 => goal s3 h E3 a3 W3 p1 p2 p3 p4
        | ex i s3 => cases h
        | pn x s3 => cases h)
      exact this
    · -- left
      intro c s2 hrn E3 W q1 q2 q3 q4 hD hno
      rw [hrn] at hrr
      rcases hloop with ⟨h, _⟩ | ⟨s3, h, h3⟩
      · rw [hrr] at h; cases h
      rw [hrr] at h
      cases h
      obtain ⟨_, hret⟩ := hend h3
      refine wpIn_ret ?_
      rw [hQb]
      exact leave _ E3 E3 a1 W W s2.o hret q1 hD (by
        have hgg : (S.mk s'.t s2.l s2.o []).get = s2.get := by funext r; cases r <;> rfl
        rw [hgg]; exact hno) q2 q3 (Le.toO q4) (Fr.refl _) (Sn.refl _) (Le.refl _ _ _)
  rcases execs_append hx with ⟨s1, h1, h2⟩ | ⟨h1, h2⟩
  · refine execs_in g.ti g.prog ok hd hr'.pre h1 hr0 (fun E1 a1 w1 k1 k2 k3 k4 => ?_)
    refine wpIn_seq (wpIn_seq (wpIn_wide.2 ?_))
    refine exec_wp g.ti g.prog ok hd fuel hr'.c4 h2 k1 ?_
    cases R with
    | nx s => exact fun E2 a2 w2 j1 j2 j3 j4 => loop s E2 a2 w2 rfl j1 (k2.trans j2) (k3.trans j3) (Le.trans k4 j4)
    | rt s =>
      intro E2 a2 w2 j1 j2 j3 j4
      rcases hR with ⟨s0, hs0, he⟩ | ⟨s0, s', rows, hs0, _⟩
      · cases hs0
        obtain ⟨e1, e2⟩ := hend he
        show Qb .ret a2 w2
        rw [hQb]
        exact plain e1 e2 j1 (k2.trans j2) (k3.trans j3) (Le.trans k4 j4)
      · cases hs0
    | ex i s => rcases hR with ⟨_, h, _⟩ | ⟨_, _, _, h, _⟩ <;> cases h
    | pn x s => rcases hR with ⟨_, h, _⟩ | ⟨_, _, _, h, _⟩ <;> cases h
  · refine execs_in g.ti g.prog ok hd hr'.pre h1 hr0 ?_
    cases R with
    | nx s => exact absurd rfl (h2 s)
    | rt s =>
      intro E2 a2 w2 j1 j2 j3 j4
      rcases hR with ⟨s0, hs0, he⟩ | ⟨s0, s', rows, hs0, _⟩
      · cases hs0
        obtain ⟨e1, e2⟩ := hend he
        show Qb .ret a2 w2
        rw [hQb]
        exact plain e1 e2 j1 j2 j3 j4
      · cases hs0
    | ex i s => rcases hR with ⟨_, h, _⟩ | ⟨_, _, _, h, _⟩ <;> cases h
    | pn x s => rcases hR with ⟨_, h, _⟩ | ⟨_, _, _, h, _⟩ <;> cases h
end Go.Vx
namespace Go.Vx.Tz
open Go Go.Vx Go.Proofs Go.RowKit
noncomputable def cb : Code := bodyOf Tryz.f31
noncomputable def C0 : Code := cL cb
noncomputable def C1 : Code := cL (cR cb)
noncomputable def C2 : Code := cL (cR (cR cb))
noncomputable def C3 : Code := cL (cR (cR (cR cb)))
noncomputable def C4 : Code := cL (cL (cR (cR (cR (cR cb)))))
noncomputable def CF : Code := cB (cR (cL (cR (cR (cR (cR cb))))))
noncomputable def C5 : Code := cR (cR (cR (cR (cR cb))))
noncomputable def CA : Code := rfA CF
noncomputable def CB : Code := rfB CF
/-- The rows of a slice. -/
def sliceD : C → Option (List (List D))
  | .d .nl => some []
  | .d (.em _) => some []
  | .d (.rows 9 rs) => some rs
  | .tk _ 9 rs => some rs
  | _ => none
def askOf : List C → Option (ByteArray × Bool × Value)
  | [.d (.m (.string nm)), .d (.m (.bool flag)), .d (.m fv)] => some (nm, flag, fv)
  | _ => none
theorem askOf_spec {cs : List C} {nm : ByteArray} {flag : Bool} {fv : Value} (h : askOf cs = some (nm, flag, fv)) : cs = (askD nm flag fv).map .d := by
  unfold askOf at h
  split at h
  · cases h; rfl
  · cases h
theorem sliceD_sound {w : World} {E : Env} {ob : Ref → Option Ob} {c : C} {rs : List (List D)} {u : Value} (h : sliceD c = some rs) (hR : Rc w E ob c u) : ∃ n, Rp w E.st n (.rows 9 rs) u := by
  unfold sliceD at h
  split at h
  · cases h; obtain ⟨n, hn⟩ := hR; exact ⟨_, hn.nl_rows⟩
  · cases h; obtain ⟨n, hn⟩ := hR; exact ⟨_, hn.em_rows⟩
  · cases h; exact hR
  · cases h; exact hR.1
  · cases h
/-- The loop's rows, where the closure stands in tmp 44. -/
def rowsAt (s : S) : Option (S × List (List V)) := match s.ev (.tmp 44) with
  | some (.c (.fn f [r1, r2])) => match Nat.beq f 145, s.get r1, s.get r2 with
    | true, some (.box _ [c]), some (.box _ ask) => match sliceD c, askOf ask with
      | some rs, some (_, flag, _) => some ((s.upd r1 .gone).upd r2 .gone, rowsW flag rs)
      | _, _ => none
    | _, _, _ => none
  | _ => none
noncomputable def chkR : RFn := ⟨31, Tryz.f31, [C0, C1, C2, C3], C4, 2, .tmp 44, #[45, 46], CA, CB, C5, rowsAt⟩
theorem upd_d (s : S) (r : Ref) (o : Ob) : (s.upd r o).d = s.d := by cases r <;> rfl
theorem gone_o (s : S) (i : Nat) (o : Ob) : (s.upd (.loc i) o).o = s.o := rfl
theorem chkR_rows (s s' : S) (rows : List (List V)) (h : rowsAt s = some (s', rows)) (N : Nat) (outs : Nat → Prop) (E : Env) (a : Act) (w : World) (hr : Rel N outs E s a w) : ∃ E', Rel N outs E' s' a w ∧ Sn N outs E E' ∧ Le w E s.get w E' s'.get ∧ s'.d = s.d ∧
    ∃ gf lb, a.eval (.tmp 44) = .func (.func gf) #[] lb ∧ (∀ args w, (callFunc gf args).run Tryz.prog w = .ok (.enter gf args) w) ∧ Goes Tryz.prog gf lb (rows.map (rowP w E')) w ∧ ∀ vs ∈ rows, vs.length = 2 := by
  unfold rowsAt at h
  split at h
  case h_2 => cases h
  rename_i f r1 r2 h44
  split at h
  case h_2 => cases h
  rename_i e1 c e2 ask hf hg1 hg2
  have hf : f = 145 := Nat.eq_of_beq_eq_true hf
  subst hf
  split at h
  case h_2 => cases h
  rename_i rs nm flag fv hsl hask
  cases h
  have hask := askOf_spec hask
  subst hask
  have hne : r1 ≠ r2 := by
    intro e
    rw [e, hg2] at hg1
    cases hg1
  obtain ⟨q1, l1⟩ := hr.let hg1 (by simp)
  have hg2' : (s.upd r1 .gone).get r2 = some (.box e2 ((askD nm flag fv).map .d)) := by
    rw [upd_get, if_neg (fun h => hne h.1.symm)]
    exact hg2
  obtain ⟨q2, l2⟩ := q1.let hg2' (by simp)
  obtain ⟨us1, hu1, hu2, hu3, hu4⟩ := hr.objs r1 _ hg1
  obtain ⟨us2, hv1, hv2, hv3, hv4⟩ := hr.objs r2 _ hg2
  have hcell1 : ∀ x, x < 1 → (w.cell? ⟨E.b r1, x, none⟩).isSome = true := fun x hx => by
    have : x < us1.size := by simp at hu2; omega
    simp [World.cell?, hu1, this]
  have hcell2 : ∀ x, x < 3 → (w.cell? ⟨E.b r2, x, none⟩).isSome = true := fun x hx => by
    have : x < us2.size := by simp [askD] at hv2; omega
    simp [World.cell?, hv1, this]
  obtain ⟨st1, hst1⟩ : ∃ st1 : Nat → Nat → Prop, st1 = fun b x => E.st b x ∨ (b = E.b r1 ∧ x < 1) ∨ (b = E.b r2 ∧ x < 3) := ⟨_, rfl⟩
  have hgone : ∀ r o, ((s.upd r1 .gone).upd r2 .gone).get r = some o → (r ≠ r1 ∧ r ≠ r2 ∧ s.get r = some o) ∨ o = .gone := by
    intro r o h
    rw [upd_get] at h
    split at h
    · cases h; exact .inr rfl
    rename_i h2
    rw [upd_get] at h
    split at h
    · cases h; exact .inr rfl
    rename_i h1
    exact .inl ⟨fun e => h1 ⟨e, by rw [hg1]; rfl⟩, fun e => h2 ⟨e, by rw [hg2']; rfl⟩, h⟩
  have hno : ∀ b x, st1 b x → E.st b x ∨ ¬ ownAt ⟨E.b, upd (upd E.v r1 (E.v r1)) r2 ((upd E.v r1 (E.v r1)) r2), E.st⟩ ((s.upd r1 .gone).upd r2 .gone).get b := by
    intro b x hx
    rw [hst1] at hx
    rcases hx with hx | hx
    · exact .inl hx
    refine .inr fun ⟨r, o, h1, h2⟩ => ?_
    rcases hgone r o h1 with ⟨n1, n2, h3⟩ | rfl
    · have hb : blk E r o = some b := by
        have : ∀ r', (upd (upd E.v r1 (E.v r1)) r2 ((upd E.v r1 (E.v r1)) r2)) r' = E.v r' := by
          intro r'
          unfold upd
          split
          · rename_i e; subst e; split <;> simp_all
          · split <;> simp_all
        rw [← h2]
        cases o <;> simp [blk, this]
      rcases hx with ⟨rfl, _⟩ | ⟨rfl, _⟩
      · exact n1 (hr.apart r r1 o _ _ h3 hg1 hb rfl)
      · exact n2 (hr.apart r r2 o _ _ h3 hg2 hb rfl)
    · cases h2
  obtain ⟨q3, l3⟩ := q2.more (st1 := st1) (fun b x h => by rw [hst1]; exact .inl h) hno (fun b x h => by
    rw [hst1] at h
    rcases h with h | ⟨rfl, h⟩ | ⟨rfl, h⟩
    · exact hr.has b x h
    · exact hcell1 x h
    · exact hcell2 x h)
  have l4 := Le.trans (Le.trans l1 l2) l3
  refine ⟨_, q3, ?_, l4, by rw [upd_d, upd_d], 145, #[.pointer (some ⟨E.b r1, 0, none⟩), .pointer (some ⟨E.b r2, 0, none⟩)], ?_, ?_, ?_, ?_⟩
  · intro b x hx
    have hx : st1 b x := hx
    rw [hst1] at hx
    rcases hx with hx | ⟨rfl, _⟩ | ⟨rfl, _⟩
    · exact .inl hx
    · exact .inr (hr.mine r1 _ _ hg1 rfl)
    · exact .inr (hr.mine r2 _ _ hg2 rfl)
  · have := (ev_sound hr (x := .tmp 44) h44).1.2
    exact this
  · exact fun args w => run_enter Tryz.func145 (good.named 145 _ Tryz.func145) (show Tryz.f145.body = some wb from by kernel_rfl) args w
  · obtain ⟨y, hy, hy1, hRc⟩ := hu3 0 c rfl
    obtain ⟨n, hn⟩ := sliceD_sound hsl hRc
    refine with_goes (n := n) (sv := y) (fv := fv) (nm := nm) ?_ ?_ ?_ ?_ q3.has
    · show st1 _ _
      rw [hst1]; exact .inr (.inl ⟨rfl, by omega⟩)
    · simp [World.cell?, hu1, hy]
    · exact hn.le (fun b x h => by show st1 b x; rw [hst1]; exact .inl h) (fun _ _ _ => rfl)
    · refine ⟨0, E.b r2, 0, rfl, fun j x hj => ?_⟩
      have hj3 : j < 3 := by have := (List.getElem?_eq_some_iff.1 hj).1; simpa [askD] using this
      obtain ⟨y, hy, hy1, hRc⟩ := hv3 j (.d x) (by rw [List.getElem?_map, hj]; rfl)
      refine ⟨?_, y, ?_, ?_⟩
      · show st1 _ _
        rw [hst1]; exact .inr (.inr ⟨rfl, by omega⟩)
      · simp [World.cell?, hv1, hy]
      · have : ∃ v, x = .m v := by
          match j, hj with
          | 0, hj => cases hj; exact ⟨_, rfl⟩
          | 1, hj => cases hj; exact ⟨_, rfl⟩
          | 2, hj => cases hj; exact ⟨_, rfl⟩
        obtain ⟨v, rfl⟩ := this
        obtain ⟨n, hn⟩ := hRc
        cases n <;> exact hn
  · intro vs hvs
    have : vs ∈ rowsB rs := by
      cases flag with
      | true => exact hvs
      | false => exact List.mem_of_mem_take hvs
    obtain ⟨k, hk⟩ := List.mem_iff_getElem?.1 this
    obtain ⟨row, _, _, rfl⟩ := rowsB_inv hk
    rfl
theorem C_ok : codeOk C0 = true ∧ codeOk C1 = true ∧ codeOk C2 = true ∧ codeOk C3 = true ∧ codeOk C4 = true := ⟨by kernel_rfl, by kernel_rfl, by kernel_rfl, by kernel_rfl, by kernel_rfl⟩
theorem C_flat : flat CA = true ∧ flat CB = true ∧ flat C5 = true := ⟨by kernel_rfl, by kernel_rfl, by kernel_rfl⟩
theorem chkR_body : Tryz.f31.body = some chkR.body := by kernel_rfl
set_option maxRecDepth 100000 in
theorem chkR_ok : chkR.Ok Tryz.prog where
  hf := Tryz.func31
  hb := chkR_body
  pre := by
    intro c hc
    have h : c = C0 ∨ c = C1 ∨ c = C2 ∨ c = C3 := by
      simpa [chkR] using hc
    rcases h with rfl | rfl | rfl | rfl
    · exact C_ok.1
    · exact C_ok.2.1
    · exact C_ok.2.2.1
    · exact C_ok.2.2.2.1
  c4 := C_ok.2.2.2.2
  ca := C_flat.1
  cb := C_flat.2.1
  post := C_flat.2.2
  rows := fun s s' rows h N outs E a w hr => chkR_rows s s' rows h N outs E a w hr
set_option maxRecDepth 100000 in
theorem chkO_ok {orc : Orc} (ok : OKo Tryz.prog orc) (fuel : Nat) : OKo Tryz.prog (rfO chkR cf orc fuel) := rfO_ok good ok chkR_ok fuel
end Go.Vx.Tz
