/- What a call's memory and values are, told without addresses: trees that are read, variables and rows of the call's own; and what holds of a world that bears them. What the operations of the code do to a call's memory, told without addresses (Vx0): the definitions. The operations that change no memory do what Vx1 says. The operations that change no memory do what Vx1 says, all of them. The operations that change no memory do what Vx1 says: fields, elements, slices, lengths. A struct out of its parts; and the operations that change no memory, in one theorem. New memory: what the operations that make it leave. Memory of the call's own that is written: variables, rows that are appended to, maps. Rows that the call makes and appends to. Literals of slices, and append. Append to a row; a map that is written. A map that is written. Texts gone through, and slices held against nil. Strings appended to bytes; addresses held against nil, or seen as unsafe ones. Every operation does what Vx1 says. -/
import Derived.WalkKit
import Derived.Below
import Derived.Lib.Builder
import Derived.Lib.UnsafeStr
set_option linter.unusedVariables false
namespace Go.Vx
open Go

inductive Ref where
  | loc (i : Nat)
  | out (i : Nat)
  deriving DecidableEq
/-- A cell that is read for good: a value of one cell, the nil slice, an empty slice that is not nil, a slice by what it holds (rows of sz cells; nil or not, where it holds none). -/
inductive D where
  | m (v : Value)
  | nl
  | em (sz : Nat)
  | rows (sz : Nat) (rs : List (List D))
/-- A cell: besides, a slice that may be appended to (the row r), a slice of an array of the call's own that may be written (n elements of sz cells behind off cells of r), an address into a variable, an address into what is read, a map, a function value. -/
inductive C where
  | d (x : D)
  | tk (r : Ref) (sz : Nat) (rs : List (List D))
  | sl (r : Ref) (off sz n : Nat)
  | ptr (r : Ref) (off : Nat)
  | rp (cs : List D)
  | mp (r : Ref)
  | fn (f : FuncId) (caps : List Ref)
  | dead
inductive V where
  | c (x : C)
  | agg (cs : List C)
  | tup (vs : List V)
/-- What memory of the call's own is; hole: a place that is not taken yet; gone: one that was taken, and is written no more; pmap: a map that is read alone, its entries in whatever order. -/
inductive Ob where
  | box (e : TypeId) (cs : List C)
  | tok (e : TypeId) (sz n : Nat)
  | map (es : List (Value × C))
  | pmap (es : List (Value × D))
  | iter (s : ByteArray) (pos : Nat)
  | hole
  | gone
structure S where
  t : List V
  l : List Ob
  o : List Ob
  d : List (FuncId × List V)
def S.get (s : S) : Ref → Option Ob
  | .loc i => s.l[i]?
  | .out i => s.o[i]?
/-- Where memory lies: b: a variable's block; v: a row's slice; st: the cells that stay as they are. -/
structure Env where
  b : Ref → Nat
  v : Ref → Value
  st : Nat → Nat → Prop

/-- Are two keys one? none: not told here. -/
def sameK : Value → Value → Option Bool
  | .string p, .string q => some (decide (p = q))
  | .int i p, .int j q => if i = j then some (decide (p = q)) else none
  | .agg a, .agg b => match a.toList, b.toList with
    | [.string p, .string p'], [.string q, .string q'] => some (decide (p = q) && decide (p' = q'))
    | _, _ => none
  | _, _ => none
def findK (k : Value) : List (Value × C) → Option (Option C)
  | [] => some none
  | (a, x) :: l => match sameK k a with
    | some true => some (some x)
    | some false => findK k l
    | none => none
/-- A key's place among entries. -/
def posE (kv : Value) : List MapEntry → Nat → Option (Option (Nat × Value))
  | [], _ => some none
  | e :: es, i => match sameK kv e.key with
    | some true => some (some (i, e.val))
    | some false => posE kv es (i + 1)
    | none => none
def Rp (w : World) (st : Nat → Nat → Prop) : Nat → D → Value → Prop
  | _, .m v, u => u = v ∧ v.oneCell' = true
  | _, .nl, u => u = .slice none 0 0
  | _, .em _, u => ∃ A c, u = .slice (some A) 0 c
  | 0, .rows _ _, _ => False
  | n + 1, .rows sz rs, u => ∃ A c, u = .slice A rs.length c ∧ (rs.length ≤ c ∧ rs.length ≤ maxLen ∧ (A = none → c = 0)) ∧ (∀ r ∈ rs, r.length = sz) ∧
      ∀ (i : Nat) (r : List D), rs[i]? = some r → ∀ (j : Nat) (x : D), r[j]? = some x → ∃ b o y, A = some ⟨b, o, none⟩ ∧ st b (o + (i * sz + j)) ∧
        w.cell? ⟨b, o + (i * sz + j), none⟩ = some y ∧ Rp w st n x y
def live (ob : Ref → Option Ob) (r : Ref) : Prop := ∃ o, ob r = some o ∧ o ≠ .hole
def Rc (w : World) (E : Env) (ob : Ref → Option Ob) : C → Value → Prop
  | .d x, u => ∃ n, Rp w E.st n x u
  | .tk r sz rs, u => (∃ n, Rp w E.st n (.rows sz rs) u) ∧ live ob r ∧ ∀ e sz' n, ob r = some (.tok e sz' n) → sz' = sz ∧ rs.length ≤ n ∧ (rs.length = n → u = E.v r)
  | .sl r off sz n, u => live ob r ∧ ∃ c, n ≤ c ∧ n ≤ maxLen ∧ u = .slice (some ⟨E.b r, off, none⟩) n c
  | .ptr r off, u => live ob r ∧ u = .pointer (some ⟨E.b r, off, none⟩)
  | .rp cs, u => ∃ n b o, u = .pointer (some ⟨b, o, none⟩) ∧ ∀ (j : Nat) (x : D), cs[j]? = some x → E.st b (o + j) ∧ ∃ y, w.cell? ⟨b, o + j, none⟩ = some y ∧ Rp w E.st n x y
  | .mp r, u => live ob r ∧ u = .map (some (E.b r))
  | .fn f caps, u => (∀ r ∈ caps, live ob r) ∧ u = .func (.func f) #[] (caps.map fun r => .pointer (some ⟨E.b r, 0, none⟩)).toArray
  | .dead, _ => True
def R1 (w : World) (E : Env) (ob : Ref → Option Ob) : V → Value → Prop
  | .c x, u => Rc w E ob x u ∧ (x ≠ .dead → u.oneCell' = true)
  | .agg cs, u => ∃ us : List Value, u = .agg us.toArray ∧ us.length = cs.length ∧ ∀ (j : Nat) (x : C), cs[j]? = some x → ∃ y : Value, us[j]? = some y ∧ y.oneCell' = true ∧ Rc w E ob x y
  | .tup _, _ => False
def Rv (w : World) (E : Env) (ob : Ref → Option Ob) : V → Value → Prop
  | .tup vs, u => ∃ us : List Value, u = .tuple us.toArray ∧ us.length = vs.length ∧ ∀ (j : Nat) (x : V), vs[j]? = some x → ∃ y : Value, us[j]? = some y ∧ R1 w E ob x y
  | v, u => R1 w E ob v u
/-- Values side by side. -/
def Pv (w : World) (E : Env) (ob : Ref → Option Ob) (vs : List V) (us : List Value) : Prop :=
  us.length = vs.length ∧ ∀ (j : Nat) (x : V), vs[j]? = some x → ∃ y : Value, us[j]? = some y ∧ Rv w E ob x y
/-- What is deferred. -/
def Dr (w : World) (E : Env) (ob : Ref → Option Ob) (d : List (FuncId × List V)) (ds : List Deferred) : Prop :=
  ds.length = d.length ∧ ∀ (j : Nat) (p : FuncId × List V), d[j]? = some p → ∃ us : List Value, ds[j]? = some { target := .fn (.func p.1) #[], args := us.toArray } ∧ Pv w E ob p.2 us
def blk (E : Env) (r : Ref) : Ob → Option Nat
  | .box .. | .map .. | .pmap .. | .iter .. => some (E.b r)
  | .tok .. => (E.v r).ownBlock
  | .hole | .gone => none
def Ro (w : World) (E : Env) (ob : Ref → Option Ob) (r : Ref) : Ob → Prop
  | .box e cs => ∃ us : Array Value, w.heap[E.b r]? = some (.cells us e (0, 0)) ∧ cs.length ≤ us.size ∧
      (∀ (j : Nat) (x : C), cs[j]? = some x → ∃ y : Value, us[j]? = some y ∧ y.oneCell' = true ∧ Rc w E ob x y) ∧ ∀ o, ¬ E.st (E.b r) o
  | .tok e sz n => ∃ (g cap : Nat) (cur : Array Value), E.v r = .slice (some ⟨g, 0, none⟩) n cap ∧ w.heap[g]? = some (.cells cur e (0, 0)) ∧ n ≤ cap ∧ cap ≤ maxLen ∧
      cur.size = cap * sz ∧ ∀ o, E.st g o → o < n * sz
  | .map es => ∃ (ents : Array MapEntry) (clock : Nat), w.heap[E.b r]? = some (.map ents clock) ∧ (ents.size = es.length ∧ clock = ents.size ∧ ∀ (j : Nat) (en : MapEntry), ents[j]? = some en → en.born = j) ∧
      ∀ (j : Nat) (k : Value) (x : C), es[j]? = some (k, x) → ∃ en : MapEntry, ents[j]? = some en ∧ en.key = k ∧ en.val.oneCell' = true ∧ Rc w E ob x en.val
  | .pmap es => ∃ (ents : Array MapEntry) (clock : Nat), w.heap[E.b r]? = some (.map ents clock) ∧
      (∀ kv d, findK kv (es.map fun p => (p.1, .d p.2)) = some (some (.d d)) → ∃ i v, posE kv ents.toList 0 = some (some (i, v)) ∧ v.oneCell' = true ∧ Rc w E ob (.d d) v) ∧
      (∀ kv, findK kv (es.map fun p => (p.1, .d p.2)) = some none → posE kv ents.toList 0 = some none)
  | .iter s pos => w.heap[E.b r]? = some (.stringIter s pos) ∧ ∀ o, ¬ E.st (E.b r) o
  | .hole | .gone => True

/-- The world goes on: what is read stays, what is owned stays owned. -/
structure Le (w : World) (E : Env) (ob : Ref → Option Ob) (w' : World) (E' : Env) (ob' : Ref → Option Ob) : Prop where
  st : ∀ b o, E.st b o → E'.st b o
  cell : ∀ b o, E.st b o → w'.cell? ⟨b, o, none⟩ = w.cell? ⟨b, o, none⟩
  live : ∀ r, live ob r → live ob' r
  b : ∀ r, Vx.live ob r → E'.b r = E.b r
  tok : ∀ r e sz n', Vx.live ob r → ob' r = some (.tok e sz n') → ∃ n, ob r = some (.tok e sz n) ∧ n ≤ n' ∧ (n = n' → E'.v r = E.v r)

theorem Rp.up {w : World} {st : Nat → Nat → Prop} : ∀ {n m : Nat} {x : D} {u : Value}, Rp w st n x u → n ≤ m → Rp w st m x u
  | 0, 0, _, _, h, _ => h
  | 0, m + 1, .m _, _, h, _ => by simpa [Rp] using h
  | 0, m + 1, .nl, _, h, _ => by simpa [Rp] using h
  | 0, m + 1, .em _, _, h, _ => by simpa [Rp] using h
  | 0, m + 1, .rows _ _, _, h, _ => by simp [Rp] at h
  | n + 1, m + 1, .m _, _, h, _ => by simpa [Rp] using h
  | n + 1, m + 1, .nl, _, h, _ => by simpa [Rp] using h
  | n + 1, m + 1, .em _, _, h, _ => by simpa [Rp] using h
  | n + 1, m + 1, .rows sz rs, _, h, hle => by
    obtain ⟨A, c, hu, hl, hr, hc⟩ := h
    refine ⟨A, c, hu, hl, hr, fun i r hi j x hx => ?_⟩
    obtain ⟨b, o, y, hA, hs, hy, hp⟩ := hc i r hi j x hx
    exact ⟨b, o, y, hA, hs, hy, hp.up (by omega)⟩
  | n + 1, 0, _, _, _, hle => by omega
theorem Rp.em_rows {w : World} {st : Nat → Nat → Prop} {n k sz : Nat} {u : Value} (h : Rp w st n (.em k) u) : Rp w st (n + 1) (.rows sz []) u := by
  obtain ⟨A, c, rfl⟩ : ∃ A c, u = .slice (some A) 0 c := by cases n <;> exact h
  exact ⟨some A, c, rfl, ⟨by simp, by simp, by simp⟩, by simp, fun i r hi => by simp at hi⟩
theorem Rp.nl_rows {w : World} {st : Nat → Nat → Prop} {n sz : Nat} {u : Value} (h : Rp w st n .nl u) : Rp w st (n + 1) (.rows sz []) u := by
  have : u = .slice none 0 0 := by cases n <;> exact h
  subst this
  exact ⟨none, 0, rfl, ⟨by simp, by simp, by simp⟩, by simp, fun i r hi => by simp at hi⟩
theorem Rp.le {w w' : World} {st st' : Nat → Nat → Prop} (h1 : ∀ b o, st b o → st' b o) (h2 : ∀ b o, st b o → w'.cell? ⟨b, o, none⟩ = w.cell? ⟨b, o, none⟩) :
    ∀ {n : Nat} {x : D} {u : Value}, Rp w st n x u → Rp w' st' n x u
  | 0, .m _, _, h => by simpa [Rp] using h
  | 0, .nl, _, h => by simpa [Rp] using h
  | 0, .em _, _, h => by simpa [Rp] using h
  | 0, .rows _ _, _, h => by simp [Rp] at h
  | n + 1, .m _, _, h => by simpa [Rp] using h
  | n + 1, .nl, _, h => by simpa [Rp] using h
  | n + 1, .em _, _, h => by simpa [Rp] using h
  | n + 1, .rows sz rs, _, h => by
    obtain ⟨A, c, hu, hl, hr, hc⟩ := h
    refine ⟨A, c, hu, hl, hr, fun i r hi j x hx => ?_⟩
    obtain ⟨b, o, y, hA, hs, hy, hp⟩ := hc i r hi j x hx
    exact ⟨b, o, y, hA, h1 _ _ hs, (h2 _ _ hs).trans hy, hp.le h1 h2⟩
section
variable {w w' : World} {E E' : Env} {ob ob' : Ref → Option Ob}
theorem Rc.le (h : Le w E ob w' E' ob') {x : C} {u : Value} (hr : Rc w E ob x u) : Rc w' E' ob' x u := by
  cases x with
  | d x => obtain ⟨n, hp⟩ := hr; exact ⟨n, hp.le h.st h.cell⟩
  | tk r sz rs =>
    obtain ⟨⟨n, hp⟩, hl, hk⟩ := hr
    refine ⟨⟨n, hp.le h.st h.cell⟩, h.live _ hl, fun e sz' n' he => ?_⟩
    obtain ⟨n0, ho, hle, hv⟩ := h.tok r e sz' n' hl he
    obtain ⟨h1, h2, h3⟩ := hk e sz' n0 ho
    refine ⟨h1, by omega, fun hn => ?_⟩
    have : n0 = n' := by omega
    rw [hv this]
    exact h3 (by omega)
  | sl r off sz n => exact ⟨h.live _ hr.1, by rw [h.b _ hr.1]; exact hr.2⟩
  | ptr r off => exact ⟨h.live _ hr.1, by rw [h.b _ hr.1]; exact hr.2⟩
  | rp cs =>
    obtain ⟨n, b, o, hu, hc⟩ := hr
    refine ⟨n, b, o, hu, fun j x hx => ?_⟩
    obtain ⟨hs, y, hy, hp⟩ := hc j x hx
    exact ⟨h.st _ _ hs, y, (h.cell _ _ hs).trans hy, hp.le h.st h.cell⟩
  | mp r => exact ⟨h.live _ hr.1, by rw [h.b _ hr.1]; exact hr.2⟩
  | fn f caps =>
    refine ⟨fun r hm => h.live _ (hr.1 r hm), ?_⟩
    rw [hr.2]
    congr 2
    exact List.map_congr_left fun r hm => by rw [h.b _ (hr.1 r hm)]
  | dead => trivial
theorem R1.le (h : Le w E ob w' E' ob') {x : V} {u : Value} (hr : R1 w E ob x u) : R1 w' E' ob' x u := by
  cases x with
  | c x => exact ⟨hr.1.le h, hr.2⟩
  | agg cs =>
    obtain ⟨us, hu, hl, hc⟩ := hr
    refine ⟨us, hu, hl, fun j x hx => ?_⟩
    obtain ⟨y, hy, h1, hp⟩ := hc j x hx
    exact ⟨y, hy, h1, hp.le h⟩
  | tup vs => exact hr.elim
theorem Rv.le (h : Le w E ob w' E' ob') {x : V} {u : Value} (hr : Rv w E ob x u) : Rv w' E' ob' x u := by
  cases x with
  | c x => exact R1.le (x := .c x) h hr
  | agg cs => exact R1.le (x := .agg cs) h hr
  | tup vs =>
    obtain ⟨us, hu, hl, hc⟩ := hr
    refine ⟨us, hu, hl, fun j x hx => ?_⟩
    obtain ⟨y, hy, hp⟩ := hc j x hx
    exact ⟨y, hy, hp.le h⟩
theorem Pv.le (h : Le w E ob w' E' ob') {vs : List V} {us : List Value} (hr : Pv w E ob vs us) : Pv w' E' ob' vs us :=
  ⟨hr.1, fun j x hx => let ⟨y, hy, hp⟩ := hr.2 j x hx; ⟨y, hy, hp.le h⟩⟩
theorem Dr.le (h : Le w E ob w' E' ob') {d : List (FuncId × List V)} {ds : List Deferred} (hr : Dr w E ob d ds) : Dr w' E' ob' d ds :=
  ⟨hr.1, fun j p hp => let ⟨us, hu, hv⟩ := hr.2 j p hp; ⟨us, hu, hv.le h⟩⟩
theorem Rv.of1 {x : V} {u : Value} (h : R1 w E ob x u) : Rv w E ob x u := by
  cases x with
  | tup vs => exact h.elim
  | _ => exact h
theorem Le.refl (w : World) (E : Env) (ob : Ref → Option Ob) : Le w E ob w E ob :=
  ⟨fun _ _ h => h, fun _ _ _ => rfl, fun _ h => h, fun _ _ => rfl, fun r e sz n _ h => ⟨n, h, Nat.le_refl _, fun _ => rfl⟩⟩
theorem Le.trans {w2 : World} {E2 : Env} {ob2 : Ref → Option Ob} (h : Le w E ob w' E' ob') (k : Le w' E' ob' w2 E2 ob2) : Le w E ob w2 E2 ob2 where
  st := fun b o hs => k.st _ _ (h.st _ _ hs)
  cell := fun b o hs => (k.cell _ _ (h.st _ _ hs)).trans (h.cell _ _ hs)
  live := fun r hl => k.live _ (h.live _ hl)
  b := fun r hl => (k.b _ (h.live _ hl)).trans (h.b _ hl)
  tok := fun r e sz n' hl he => by
    obtain ⟨n1, h1, l1, v1⟩ := k.tok r e sz n' (h.live _ hl) he
    obtain ⟨n2, h2, l2, v2⟩ := h.tok r e sz n1 hl h1
    exact ⟨n2, h2, by omega, fun hn => (v1 (by omega)).trans (v2 (by omega))⟩
end
end Go.Vx
namespace Go.Vx
open Go

/-- What of an operation needs no world. -/
def pr (P : Program) {α : Type} : Sem α → Option α
  | .pure a => some a
  | .program k => pr P (k P)
  | .mark _ k => pr P k
  | _ => none
theorem pr_run {P : Program} {α : Type} {s : Sem α} {x : α} (w : World) (h : pr P s = some x) : s.run P w = .ok x w := by
  induction s with
  | pure a => simp only [pr, Option.some.injEq] at h; subst h; rfl
  | program k ih => exact ih _ h
  | mark m k ih => exact ih h
  | _ => simp [pr] at h

inductive Kd where
  | int (k : IntKind) | bool | string
  | struct (fs : List (Nat × TypeId))
  | slice (e : TypeId)
  | map (k e : TypeId)
  | array (n : Nat) (e : TypeId)
  | ptr (e : TypeId) | func | iface | uptr
  deriving DecidableEq
structure TRow where
  k : Kd
  size : Nat
  bytes : Nat
  zero : List D
  szs : List (Option Nat)
def TRow.agg (r : TRow) : Bool := match r.k with | .struct _ | .array .. => true | _ => false
abbrev TI := TypeId → Option TRow
def kdOf (ti : TI) (t : TypeId) : Option Kd := match ti t with | some r => some r.k | none => none

abbrev V.m (v : Value) : V := .c (.d (.m v))
abbrev V.i (n : Int) : V := .c (.d (.m (.int .i64 n)))
abbrev V.b (b : Bool) : V := .c (.d (.m (.bool b)))
abbrev V.s (s : ByteArray) : V := .c (.d (.m (.string s)))
def V.cells : V → Option (List C)
  | .c .dead => none
  | .c x => some [x]
  | .agg cs => some cs
  | .tup _ => none
def ofConst : Value → Option V
  | .slice none 0 0 => some (.c (.d .nl))
  | .slice .. | .agg _ | .tuple _ => none
  | v => some (.m v)
def S.ev (s : S) : Operand → Option V
  | .tmp i => s.t[i]?
  | .const v => ofConst v
  | .func f => some (.c (.fn f []))
  | .global _ => none
def S.put (s : S) (d : Option Tmp) (v : V) : S := match d with
  | some d => { s with t := s.t.set d v }
  | none => s
def S.upd (s : S) : Ref → Ob → S
  | .loc i, o => { s with l := s.l.set i o }
  | .out i, o => { s with o := s.o.set i o }
/-- The value of type t that lies at the front. -/
def asV (ti : TI) (t : TypeId) (cs : List C) : Option V :=
  match ti t with
  | none => none
  | some r => if r.agg then (if r.size ≤ cs.length then some (.agg (cs.take r.size)) else none) else
    match cs with
    | x :: _ => some (.c x)
    | [] => none
def putAt {α : Type} (cs : List α) (off : Nat) (ns : List α) : List α := cs.take off ++ ns ++ cs.drop (off + ns.length)
/-- The rows that a slice holds, read. -/
def C.rows? : C → Option (List (List D))
  | .d .nl => some []
  | .d (.em _) => some []
  | .d (.rows _ rs) => some rs
  | .tk _ _ rs => some rs
  | _ => none
def C.sz? : C → Option Nat
  | .d (.rows sz _) => some sz
  | .d (.em sz) => some sz
  | .tk _ sz _ => some sz
  | .sl _ _ sz _ => some sz
  | _ => none
/-- Is a slice nil? -/
def C.isNil : C → Option Bool
  | .d .nl => some true
  | .d (.em _) => some false
  | .d (.rows _ ((_ :: _) :: _)) => some false
  | .tk _ _ ((_ :: _) :: _) => some false
  | .sl .. => some false
  | _ => none
def C.d? : C → Option D
  | .d x => some x
  | .tk _ sz rs => some (.rows sz rs)
  | .fn f [] => some (.m (.func (.func f) #[] #[]))
  | _ => none
def C.alive : C → Bool
  | .dead => false
  | _ => true
def C.m? : C → Option Value
  | .d (.m v) => some v
  | _ => none

inductive Eff where
  | val (v : V)
  | new (o : Ob) (v : Ref → V)
  | upd (r : Ref) (o : Ob) (v : V)
  | call (f : FuncId) (args : List V)
  | pan (x : C)

def pickV (t : Bool) : V → V → V
  | .c (.d (.m (.bool p))), .c (.d (.m (.bool q))) => .b (bif t then p else q)
  | x, y => bif t then x else y
def fldAt (ti : TI) (fs : List (Nat × TypeId)) (i : Nat) : Option (Nat × Nat) :=
  match fs[i]? with
  | some (off, u) => (ti u).map fun (q : TRow) => (off, q.size)
  | none => none
def fillC (fs : Nat → Option (Nat × Nat)) : List C → List (Nat × V) → Option (List C)
  | cs, [] => some cs
  | cs, (i, v) :: rest =>
    match fs i, v.cells with
    | some (off, size), some ns => if ns.length = size ∧ off + size ≤ cs.length then fillC fs (putAt cs off ns) rest else none
    | _, _ => none
def evParts (ev : Operand → Option V) : List (Nat × Operand) → Option (List (Nat × V))
  | [] => some []
  | (i, x) :: rest => match ev x, evParts ev rest with
    | some v, some l => some ((i, v) :: l)
    | _, _ => none
def evList (ev : Operand → Option V) : List Operand → Option (List V)
  | [] => some []
  | x :: rest => match ev x, evList ev rest with
    | some v, some l => some (v :: l)
    | _, _ => none
def chunks {α : Type} (sz : Nat) : Nat → List α → List (List α)
  | 0, _ => []
  | n + 1, l => l.take sz :: chunks sz n (l.drop sz)
/-- A cell that is read; the nil slice as one of no rows, where its rows' size is known. -/
def C.dz? (z : Option Nat) (c : C) : Option D :=
  match c, z with
  | .d .nl, some sz => some (.rows sz [])
  | .d (.em _), some sz => some (.rows sz [])
  | c, _ => c.d?
def allD : List (Option Nat) → List C → Option (List D)
  | _, [] => some []
  | zs, x :: l => match x.dz? (zs.headD none), allD zs.tail l with
    | some y, some r => some (y :: r)
    | _, _ => none
def allM : List C → Option (List Value)
  | [] => some []
  | x :: l => match x.m?, allM l with
    | some y, some r => some (y :: r)
    | _, _ => none
def allRef : List V → Option (List Ref)
  | [] => some []
  | .c (.ptr r 0) :: l => (allRef l).map (r :: ·)
  | _ => none
/-- The entries that are looked through. -/
def mapOf : Ob → Option (List (Value × C))
  | .map es => some es
  | .pmap es => some (es.map fun p => (p.1, .d p.2))
  | _ => none
def putK (k : Value) (y : C) : List (Value × C) → Option (List (Value × C))
  | [] => some [(k, y)]
  | (a, x) :: l => match sameK k a with
    | some true => some ((k, y) :: l)
    | some false => (putK k y l).map ((a, x) :: ·)
    | none => none
/-- A key of the map's own kind. -/
def keyOk (ti : TI) (k : TypeId) (v : Value) : Bool :=
  match kdOf ti k, v with
  | some .string, .string _ => true
  | some (.int i), .int j _ => i == j
  | some (.array 2 e), .agg a => match ti e, a.toList with
    | some ⟨.string, 1, _, _, _⟩, [.string _, .string _] => true
    | _, _ => false
  | _, _ => false
/-- A key, out of a value. -/
def keyV : V → Option Value
  | .c (.d (.m v)) => some v
  | .agg cs => (allM cs).map fun l => .agg l.toArray
  | _ => none
def bound (v : Option V) (d : Nat) : Option Int :=
  match v with
  | none => some d
  | some (.c (.d (.m (.int _ n)))) => some n
  | _ => none
/-- An operand that may lack. -/
def evOpt (ev : Operand → Option V) : Option Operand → Option (Option V)
  | none => some none
  | some x => (ev x).map some

def effSlice (size : Nat) (lo hi : Option V) : V → Option Eff
  | .c (.d (.m (.string s))) => match bound lo 0, bound hi s.size with
    | some l, some h => if 0 ≤ l ∧ l ≤ h ∧ h ≤ s.size then some (.val (.s (s.extract l.toNat h.toNat))) else none
    | _, _ => none
  | .c (.sl r off sz n) => match bound lo 0, bound hi n with
    | some l, some h => if sz = size ∧ 0 ≤ l ∧ l ≤ h ∧ h ≤ n ∧ (l = 0 ∨ l < h) then some (.val (.c (.sl r (off + l.toNat * sz) sz (h.toNat - l.toNat)))) else none
    | _, _ => none
  | .c y => match y.sz?, y.rows?, bound lo 0 with
    | some sz, some rs, some l => match bound hi rs.length with
      | some h => if sz = size ∧ 0 ≤ l ∧ l ≤ h ∧ h ≤ rs.length then some (.val (.c (.d (.rows sz ((rs.take h.toNat).drop l.toNat))))) else none
      | none => none
    | _, _, _ => none
  | _ => none
def effIndexAddr (ti : TI) (t : TypeId) (x : V) (i : Int) : Option Eff :=
  match kdOf ti t, x with
  | some (.slice e), .c (.sl r off sz n) => match ti e with
    | some q => if 0 ≤ i ∧ i < n ∧ 0 < q.size ∧ sz = q.size then some (.val (.c (.ptr r (off + i.toNat * sz)))) else none
    | none => none
  | some (.slice e), .c y => match y.rows?, ti e with
    | some rs, some r => if 0 ≤ i ∧ 0 < r.size then (match rs[i.toNat]? with | some row => if row.length = r.size then some (.val (.c (.rp row))) else none | none => none) else none
    | _, _ => none
  | some (.array n e), .c (.ptr r off) => match ti e with
    | some q => if 0 ≤ i ∧ i < n ∧ 1 < n then some (.val (.c (.ptr r (off + i.toNat * q.size)))) else none
    | none => none
  | _, _ => none
def effLen (get : Ref → Option Ob) : V → Option Eff
  | .c (.d (.m (.string s))) => some (.val (.i s.size))
  | .c (.d .nl) => some (.val (.i 0))
  | .c (.d (.em _)) => some (.val (.i 0))
  | .c (.d (.rows _ rs)) => some (.val (.i rs.length))
  | .c (.tk _ _ rs) => some (.val (.i rs.length))
  | .c (.sl _ _ _ n) => some (.val (.i n))
  | .c (.mp r) => match get r with
    | some (.map es) => some (.val (.i es.length))
    | _ => none
  | _ => none
/-- How many elements of a type a slice may have. -/
def fits (r : TRow) (n : Nat) : Prop := n * r.bytes ≤ 140737488355328 ∧ n ≤ 4611686018427387904
instance (r : TRow) (n : Nat) : Decidable (fits r n) := by unfold fits; infer_instance
def effAppend (ti : TI) (get : Ref → Option Ob) (t : TypeId) (s x : V) : Option Eff :=
  match kdOf ti t with
  | some (.slice e) => match ti e, s, x with
    | some r, .c (.d .nl), .c y => match y.rows? with
      | some ns => if ns.all (·.length == r.size) && decide (0 < r.size) then
          (if ns.length = 0 then some (.val s) else if fits r ns.length then some (.new (.tok e r.size ns.length) fun q => .c (.tk q r.size ns)) else none) else none
      | none => none
    | some r, .c (.tk q sz rs), .c y => match get q, y.rows? with
      | some (.tok e' sz' n), some ns => if ns.all (·.length == r.size) && decide (0 < r.size) && (e' == e) && (sz' == r.size) && (sz == r.size) && (n == rs.length) then
          (if ns.length = 0 then some (.val s) else if fits r (rs.length + ns.length) then some (.upd q (.tok e r.size (rs.length + ns.length)) (.c (.tk q r.size (rs ++ ns)))) else none) else none
      | _, _ => none
    | _, _, _ => none
  | _ => none

/-- A string's bytes, as rows. -/
def strRows (b : ByteArray) : List (List D) := b.data.toList.map fun x => [.m (.int .u8 x.toNat)]
def effAppendS (ti : TI) (get : Ref → Option Ob) (t : TypeId) (s : V) (b : ByteArray) : Option Eff :=
  match kdOf ti t with
  | some (.slice e) => match ti e with
    | some r => if r.size = 1 then
        (if b.size = 0 then (match s with
          | .c (.d .nl) | .c (.tk ..) => some (.val s)
          | _ => none)
        else match s with
          | .c (.d .nl) => if fits r b.size then some (.new (.tok e r.size b.size) fun q => .c (.tk q r.size (strRows b))) else none
          | .c (.tk q sz rs) => match get q with
            | some (.tok e' sz' n) => if e' = e ∧ sz' = r.size ∧ sz = r.size ∧ n = rs.length ∧ fits r (rs.length + b.size) then some (.upd q (.tok e r.size (rs.length + b.size)) (.c (.tk q r.size (rs ++ strRows b)))) else none
            | _ => none
          | _ => none) else none
    | none => none
  | _ => none

def lenOk (ti : TI) (t : TypeId) (x : V) : Bool :=
  match x, kdOf ti t with
  | .c (.d (.m _)), some .string | .c (.mp _), some (.map ..) | .c (.d .nl), some (.slice _) | .c (.d (.em _)), some (.slice _) | .c (.d (.rows ..)), some (.slice _) | .c (.tk ..), some (.slice _) | .c (.sl ..), some (.slice _) => true
  | _, _ => false
def effCall (P : Program) (ti : TI) (ev : Operand → Option V) (get : Ref → Option Ob) (c : Call) : Option Eff :=
  match c.callee with
  | .value f => match ev f, evList ev c.args.toList with
    | some (.c (.fn g caps)), some args => some (.call g (args ++ caps.map fun r => .c (.ptr r 0)))
    | some (.c (.d (.m (.func (.func g) p q)))), some args => if p.size = 0 ∧ q.size = 0 then some (.call g args) else none
    | _, _ => none
  | .builtin .len => match c.argTypes.toList, evList ev c.args.toList with
    | [t], some [x] => if lenOk ti t x then effLen get x else none
    | _, _ => none
  | .builtin .append => match c.argTypes.toList, evList ev c.args.toList with
    | [t, t'], some [s, x] => if t = t' then effAppend ti get t s x else match kdOf ti t', x with
      | some .string, .c (.d (.m (.string b))) => effAppendS ti get t s b
      | _, _ => none
    | _, _ => none
  | .builtin .max => match evList ev c.args.toList with
    | some [.c (.d (.m (.int k a))), .c (.d (.m (.int _ b)))] => some (.val (.m (.int k (if b > a then b else a))))
    | _ => none
  | .builtin .min => match evList ev c.args.toList with
    | some [.c (.d (.m (.int k a))), .c (.d (.m (.int _ b)))] => some (.val (.m (.int k (if b < a then b else a))))
    | _ => none
  | _ => none

def eff (P : Program) (ti : TI) (ev : Operand → Option V) (get : Ref → Option Ob) : Op → Option Eff
  | .move x | .assign x => (ev x).map .val
  | .pick c a b => match ev c, ev a, ev b with
    | some (.c (.d (.m (.bool t)))), some x, some y => some (.val (pickV t x y))
    | _, _, _ => none
  | .alloc t => (ti t).map fun r => .new (.box t (r.zero.map .d)) fun q => .c (.ptr q 0)
  | .box t x => match ev x with
    | some v => v.cells.map fun cs => .new (.box t cs) fun q => .c (.ptr q 0)
    | none => none
  | .build t parts => match ti t, evParts ev parts.toList with
    | some r, some ps => match r.k with
      | .struct fs => (fillC (fldAt ti fs) (r.zero.map .d) ps).map fun cs => .val (.agg cs)
      | _ => none
    | _, _ => none
  | .buildSlice t n parts => match kdOf ti t, evParts ev parts.toList with
    | some (.slice e), some ps => match ti e with
      | some r => if 0 < r.size ∧ n * r.size ≤ 65536 ∧ n * r.bytes ≤ 65536 then
          (match fillC (fun i => some (i * r.size, r.size)) (List.flatten (List.replicate n (r.zero.map .d))) ps with
           | some cs => match allD (List.flatten (List.replicate n r.szs)) cs with
             | some ds => some (.new (.tok e r.size n) fun q => .c (.tk q r.size (chunks r.size n ds)))
             | none => none
           | none => none) else none
      | none => none
    | _, _ => none
  | .load t x => match ev x with
    | some (.c (.ptr r off)) => match get r with
      | some (.box _ cs) => (asV ti t (cs.drop off)).map .val
      | _ => none
    | some (.c (.rp cs)) => (asV ti t (cs.map .d)).map .val
    | _ => none
  | .store t a x => match ev a, ev x, ti t with
    | some (.c (.ptr r off)), some v, some row => match get r, v.cells with
      | some (.box e cs), some ns => if ns.length = row.size ∧ off + ns.length ≤ cs.length then some (.upd r (.box e (putAt cs off ns)) (.c .dead)) else none
      | _, _ => none
    | _, _, _ => none
  | .nilCheck x => match ev x with
    | some (.c (.ptr r o)) => some (.val (.c (.ptr r o)))
    | some (.c (.rp cs)) => some (.val (.c (.rp cs)))
    | some (.c (.fn f cs)) => some (.val (.c (.fn f cs)))
    | some (.c (.d (.m (.func (.func f) p q)))) => some (.val (.c (.d (.m (.func (.func f) p q)))))
    | _ => none
  | .binOp op t x y _ => match ev x, ev y with
    | some (.c c), some (.c (.d .nl)) => match kdOf ti t, op, c.isNil with
      | some (.slice _), .eql, some b => some (.val (.b b))
      | some (.slice _), .neq, some b => some (.val (.b !b))
      | _, _, _ => none
    | some (.c (.d (.m a))), some (.c (.d (.m b))) => (pr P (do eqGuard op t x y a b; binOp op t a b)).bind fun v => if v.oneCell' then some (.val (.m v)) else none
    | some (.c (.ptr _ _)), some (.c (.d (.m (.pointer none)))) => match kdOf ti t, op with
      | some (.ptr _), .eql => some (.val (.b false))
      | some (.ptr _), .neq => some (.val (.b true))
      | _, _ => none
    | some (.c (.ptr r o)), some (.c (.ptr r' o')) => match kdOf ti t, op with
      | some (.ptr e), .eql => if r = r' ∧ o = o' ∧ (ti e).isSome then some (.val (.b true)) else none
      | some (.ptr e), .neq => if r = r' ∧ o = o' ∧ (ti e).isSome then some (.val (.b false)) else none
      | _, _ => none
    | _, _ => none
  | .unOp op _ x => match ev x with
    | some (.c (.d (.m a))) => (pr P (Op.unary op a)).bind fun v => if v.oneCell' then some (.val (.m v)) else none
    | _ => none
  | .convert s d x => match ev x with
    | some (.c (.d (.m a))) => (pr P (convert s d a)).bind fun v => if v.oneCell' then some (.val (.m v)) else none
    | some (.c (.ptr r off)) => match kdOf ti s, kdOf ti d, get r with
      | some (.ptr e), some .uptr, some (.box _ cs) => match ti e with
        | some q => if q.size ≠ 0 ∧ off < cs.length then some (.val (.c (.ptr r off))) else none
        | none => none
      | some .uptr, some (.ptr e), some (.box t cs) => match ti e with
        | some q => if t = e ∧ off = 0 ∧ q.size ≠ 0 ∧ q.size ≤ cs.length then some (.val (.c (.ptr r off))) else none
        | none => none
      | _, _, _ => none
    | _ => none
  | .makeInterface t x => match ev x with
    | some (.c (.d (.m a))) => match kdOf ti t with
      | some .iface | none => none
      | _ => some (.val (.m (.iface t a)))
    | some (.agg cs) => match kdOf ti t, allM cs with
      | some (.struct _), some vs => some (.val (.m (.iface t (.agg vs.toArray))))
      | _, _ => none
    | _ => none
  | .makeFunc (.func f) first caps => if first.size = 0 then ((evList ev caps.toList).bind allRef).map fun l => .val (.c (.fn f l)) else none
  | .makeMap t none => some (.new (.map []) fun q => .c (.mp q))
  | .slice t x lo hi none => match kdOf ti t, ev x, evOpt ev lo, evOpt ev hi with
    | some .string, some (.c (.d (.m (.string v)))), some l, some h => effSlice 0 l h (.s v)
    | some (.slice e), some (.c y), some l, some h => match ti e, y.sz? with
      | some r, some _ => effSlice r.size l h (.c y)
      | _, _ => none
    | _, _, _, _ => none
  | .fieldAddr t x f => match kdOf ti t, ev x with
    | some (.struct fs), some (.c (.ptr r off)) => (fs[f]?).map fun p => .val (.c (.ptr r (off + p.1)))
    | some (.struct fs), some (.c (.rp cs)) => (fs[f]?).map fun p => .val (.c (.rp (cs.drop p.1)))
    | _, _ => none
  | .field t x f => match kdOf ti t, ev x with
    | some (.struct fs), some (.agg cs) => match fs[f]? with
      | some p => (asV ti p.2 (cs.drop p.1)).map .val
      | none => none
    | _, _ => none
  | .indexAddr t x i => match ev x, ev i with
    | some v, some (.c (.d (.m (.int _ n)))) => effIndexAddr ti t v n
    | _, _ => none
  | .index t x i => match kdOf ti t, ev x, ev i with
    | some .string, some (.c (.d (.m (.string s)))), some (.c (.d (.m (.int _ n)))) => if 0 ≤ n then (match s[n.toNat]? with | some b => some (.val (.m (.int .u8 b.toNat))) | none => none) else none
    | _, _, _ => none
  | .lookup t x k ok => match kdOf ti t, ev x, (ev k).bind keyV with
    | some (.map kt et), some (.c (.mp r)), some kv => match (get r).bind mapOf, ti et with
      | some es, some row => if keyOk ti kt kv = false then none else match findK kv es with
        | some (some x) => some (.val (if ok then .tup [.c x, .b true] else .c x))
        | none => none
        | some none => match row.agg, row.zero with
          | false, [z] => some (.val (if ok then .tup [.c (.d z), .b false] else .c (.d z)))
          | _, _ => none
      | _, _ => none
    | _, _, _ => none
  | .mapUpdate t x k y | .insert t x k y => match kdOf ti t, ev x, (ev k).bind keyV, ev y with
    | some (.map kt et), some (.c (.mp r)), some kv, some (.c c) => match get r with
      | some (.map es) => if keyOk ti kt kv && c.alive then (putK kv c es).map fun es' => .upd r (.map es') (.c .dead) else none
      | _ => none
    | _, _, _, _ => none
  | .range t x => match kdOf ti t, ev x with
    | some .string, some (.c (.d (.m (.string s)))) => some (.new (.iter s 0) fun q => .c (.ptr q 0))
    | _, _ => none
  | .next x true => match ev x with
    | some (.c (.ptr r 0)) => match get r with
      | some (.iter s pos) => if pos < s.size then
          (match Utf8.decode s pos with
           | (c, width) => some (.upd r (.iter s (pos + width)) (.tup [.b true, .i pos, .m (.int .i32 c)])))
          else some (.val (.tup [.b false]))
      | _ => none
    | _ => none
  | .typeAssert x _ d true => match ev x, kdOf ti d with
    | some (.c (.d (.m (.iface t v)))), some k => match k with
      | .iface => none
      | _ => if t = d then (match v with
        | .agg us => if us.all (·.oneCell') then some (.val (.tup [.agg (us.toList.map fun u => .d (.m u)), .b true])) else none
        | v => if v.oneCell' then some (.val (.tup [.m v, .b true])) else none) else none
    | _, _ => none
  | .extract x i => match ev x with
    | some (.tup vs) => (vs[i]?).map .val
    | _ => none
  | .call c => effCall P ti ev get c
  | .panic x => match ev x with
    | some (.c (.d (.m (.iface t v)))) => some (.pan (.d (.m (.iface t v))))
    | _ => none
  | _ => none
end Go.Vx
namespace Go.Vx
open Go

def Zc : D → Value → Prop
  | .m v, u => u = v ∧ v.oneCell' = true
  | .nl, u => u = .slice none 0 0
  | .em _, _ => False
  | .rows .., _ => False
def KdOk (P : Program) (t : TypeId) : Kd → Prop
  | .int k => P.underlying t = some (.int k)
  | .bool => P.underlying t = some .bool
  | .string => P.underlying t = some .string
  | .struct fs => ∃ fa : Array Field, P.underlying t = some (.struct fa) ∧ fa.size = fs.length ∧ ∀ (j : Nat) (p : Nat × TypeId), fs[j]? = some p → ∃ f : Field, fa[j]? = some f ∧ f.offset = p.1 ∧ f.type = p.2 ∧ ∃ i, P.info? f.type = some i ∧ i.size ≠ 0
  | .slice e => P.underlying t = some (.slice e)
  | .map k e => P.underlying t = some (.map k e) ∧ (P.underlying k = some .string ∨ (∃ i, P.underlying k = some (.int i)) ∨ ∃ e, P.underlying k = some (.array 2 e) ∧ P.underlying e = some .string)
  | .array n e => P.underlying t = some (.array n e)
  | .ptr e => P.underlying t = some (.pointer e)
  | .func => ∃ a b c, P.underlying t = some (.func a b c)
  | .iface => ∃ ms, P.underlying t = some (.interface ms)
  | .uptr => P.underlying t = some .unsafePointer
structure RowOk (P : Program) (t : TypeId) (r : TRow) : Prop where
  info : ∃ i, P.info? t = some i ∧ i.size = r.size ∧ i.bytes = r.bytes ∧ ∃ z, i.zero = some z ∧ z.cells.size = r.size ∧ r.zero.length = r.size ∧
    ∀ (j : Nat) (x : D), r.zero[j]? = some x → ∃ y, z.cells[j]? = some y ∧ Zc x y
  kd : KdOk P t r.k
  one : r.agg = false → ∀ i, P.info? t = some i → ∀ z, i.zero = some z → z.oneCell' = true
def TIok (P : Program) (ti : TI) : Prop := ∀ t r, ti t = some r → RowOk P t r

structure Rel (N : Nat) (outs : Nat → Prop) (E : Env) (s : S) (a : Act) (w : World) : Prop where
  tmps : ∀ (i : Nat) (v : V), s.t[i]? = some v → ∃ u, a.tmps[i]? = some u ∧ Rv w E s.get v u
  size : s.t.length = a.tmps.size
  objs : ∀ r o, s.get r = some o → Ro w E s.get r o
  apart : ∀ r r' o o' k, s.get r = some o → s.get r' = some o' → blk E r o = some k → blk E r' o' = some k → r = r'
  mine : ∀ r o k, s.get r = some o → blk E r o = some k → N ≤ k ∨ outs k
  has : ∀ b o, E.st b o → (w.cell? ⟨b, o, none⟩).isSome = true
  defers : Dr w E s.get s.d a.defers
  low : N ≤ w.heap.size

theorem add_none (b o i : Nat) : (⟨b, o, none⟩ : Addr).add i = ⟨b, o + i, none⟩ := by
  unfold Addr.add; split <;> simp_all
section
variable {P : Program} {ti : TI} {N : Nat} {outs : Nat → Prop} {E : Env} {s : S} {a : Act} {w : World} {ob : Ref → Option Ob}

theorem ofConst_sound {v : Value} {x : V} (h : ofConst v = some x) : Rv w E ob x v := by
  unfold ofConst at h
  split at h
  · cases h; exact ⟨⟨0, rfl⟩, fun _ => rfl⟩
  · cases h
  · cases h
  · cases h
  · rename_i h1 h2 h3 h4
    cases h
    refine ⟨⟨0, rfl, ?_⟩, fun _ => ?_⟩ <;> (cases v <;> first | rfl | (exact absurd rfl (h3 _)) | (exact absurd rfl (h4 _)))
theorem ev_sound (hr : Rel N outs E s a w) {x : Operand} {v : V} (h : s.ev x = some v) : Rv w E s.get v (a.eval x) := by
  cases x with
  | tmp i =>
    obtain ⟨u, hu, hv⟩ := hr.tmps i v h
    simpa [Act.eval, Array.getD_eq_getD_getElem?, hu] using hv
  | const c => exact ofConst_sound h
  | global g => cases h
  | func f =>
    cases h
    exact ⟨⟨fun r hm => by simp at hm, rfl⟩, fun _ => rfl⟩
/-- What an operand is, by its form. -/
theorem ev_m (hr : Rel N outs E s a w) {x : Operand} {v : Value} (h : s.ev x = some (.c (.d (.m v)))) : a.eval x = v ∧ v.oneCell' = true := by
  obtain ⟨⟨n, hn⟩, -⟩ := ev_sound hr h
  cases n <;> exact hn
theorem ev_ptr (hr : Rel N outs E s a w) {x : Operand} {r : Ref} {o : Nat} (h : s.ev x = some (.c (.ptr r o))) : live s.get r ∧ a.eval x = .pointer (some ⟨E.b r, o, none⟩) := (ev_sound hr h).1
theorem ev_mp (hr : Rel N outs E s a w) {x : Operand} {r : Ref} (h : s.ev x = some (.c (.mp r))) : live s.get r ∧ a.eval x = .map (some (E.b r)) := (ev_sound hr h).1
theorem info_of (hti : TIok P ti) {t : TypeId} {r : TRow} (h : ti t = some r) : ∃ i, P.info? t = some i ∧ i.size = r.size ∧ i.bytes = r.bytes := by
  obtain ⟨i, h1, h2, h3, _⟩ := (hti t r h).info
  exact ⟨i, h1, h2, h3⟩
theorem sizeOf_of (hti : TIok P ti) {t : TypeId} {r : TRow} (h : ti t = some r) (w : World) : (sizeOf t).run P w = .ok r.size w := by
  obtain ⟨i, h1, h2, _⟩ := info_of hti h
  simp [sizeOf, typeInfo, h1, h2]
theorem kd_of (hti : TIok P ti) {t : TypeId} {k : Kd} (h : kdOf ti t = some k) : KdOk P t k := by
  unfold kdOf at h
  split at h
  · rename_i r hr; cases h; exact (hti t r hr).kd
  · cases h
theorem isAgg_of (hti : TIok P ti) {t : TypeId} {r : TRow} (h : ti t = some r) (w : World) : (isAgg t).run P w = .ok r.agg w := by
  have hk := (hti t r h).kd
  unfold TRow.agg
  unfold KdOk at hk
  cases hq : r.k with
  | struct fs => rw [hq] at hk; obtain ⟨fa, hu, _⟩ := hk; simp [isAgg, run_underlying hu]
  | map k e => rw [hq] at hk; simp [isAgg, run_underlying hk.1]
  | func => rw [hq] at hk; obtain ⟨_, _, _, hu⟩ := hk; simp [isAgg, run_underlying hu]
  | iface => rw [hq] at hk; obtain ⟨_, hu⟩ := hk; simp [isAgg, run_underlying hu]
  | _ => rw [hq] at hk; simp [isAgg, run_underlying hk]
/-- What lies at an address, loaded. -/
theorem load_of (hti : TIok P ti) {t : TypeId} {cs : List C} {v : V} (h : asV ti t cs = some v) {b o : Nat}
    (hc : ∀ (j : Nat) (x : C), cs[j]? = some x → ∃ y : Value, w.cell? ⟨b, o + j, none⟩ = some y ∧ y.oneCell' = true ∧ Rc w E ob x y) :
    ∃ u, (loadVar t ⟨b, o, none⟩).run P w = .ok u w ∧ R1 w E ob v u := by
  unfold asV at h
  cases hr : ti t with
  | none => rw [hr] at h; cases h
  | some r =>
    rw [hr] at h
    simp only [] at h
    have hA := isAgg_of hti hr w
    have hS := sizeOf_of hti hr w
    by_cases ha : r.agg = true
    · rw [if_pos ha] at h
      split at h
      case isFalse => cases h
      rename_i hle
      cases h
      have hf : ∀ j, j < r.size → w.cell? ((⟨b, o, none⟩ : Addr).add j) = some ((w.cell? ⟨b, o + j, none⟩).getD undef) := by
        intro j hj
        obtain ⟨y, hy, _⟩ := hc j _ (List.getElem?_eq_getElem (show j < cs.length by omega))
        rw [add_none, hy]; rfl
      have hl := run_loadCells (P := P) w ⟨b, o, none⟩ r.size (fun j => (w.cell? ⟨b, o + j, none⟩).getD undef) hf
      refine ⟨_, by simp [loadVar, hA, hS, hl, ha], (List.range r.size).map (fun j => (w.cell? ⟨b, o + j, none⟩).getD undef), rfl, by simp; omega, fun j x hx => ?_⟩
      rw [List.getElem?_take] at hx
      split at hx
      case isFalse => cases hx
      rename_i hj
      obtain ⟨y, hy, h1, hp⟩ := hc j x hx
      refine ⟨y, ?_, h1, hp⟩
      rw [List.getElem?_map, List.getElem?_range hj]
      simp [hy]
    · rw [if_neg ha] at h
      cases cs with
      | nil => cases h
      | cons x cs =>
        cases h
        obtain ⟨y, hy, h1, hp⟩ := hc 0 x rfl
        simp only [Nat.add_zero] at hy
        refine ⟨y, ?_, hp, fun _ => h1⟩
        simp [loadVar, hA, ha, run_load, hy]
end
end Go.Vx
namespace Go.Vx
open Go
section
variable {P : Program} {ti : TI} {N : Nat} {outs : Nat → Prop} {E : Env} {s : S} {a : Act} {w : World}

/-- What an operation that only reads comes to. -/
def ValOk (P : Program) (E : Env) (s : S) (a : Act) (w : World) (o : Oper) (v : V) : Prop := ∃ u, (execOp a.eval o).run P w = .ok (.value u) w ∧ Rv w E s.get v u

theorem bin_m (hr : Rel N outs E s a w) {o : Oper} {op : BinOp} {t ty : TypeId} {x y : Operand} {p q v : Value} (ho : o.op = .binOp op t x y ty)
    (hx : s.ev x = some (.m p)) (hy : s.ev y = some (.m q)) (h : pr P (do eqGuard op t x y p q; binOp op t p q) = some v) (h1 : v.oneCell' = true) : ValOk P E s a w o (.m v) := by
  refine ⟨v, ?_, ⟨⟨0, rfl, h1⟩, fun _ => h1⟩⟩
  have := pr_run w h
  obtain ⟨dst, op', type, pos, after, guard⟩ := o
  cases ho
  simp only [execOp, (ev_m hr hx).1, (ev_m hr hy).1]
  rw [Sem.run_bind, this]
  rfl
theorem un_m (hr : Rel N outs E s a w) {o : Oper} {op : UnOp} {t : TypeId} {x : Operand} {p v : Value} (ho : o.op = .unOp op t x)
    (hx : s.ev x = some (.m p)) (h : pr P (Op.unary op p) = some v) (h1 : v.oneCell' = true) : ValOk P E s a w o (.m v) := by
  refine ⟨v, ?_, ⟨⟨0, rfl, h1⟩, fun _ => h1⟩⟩
  have := pr_run w h
  obtain ⟨dst, op', type, pos, after, guard⟩ := o
  cases ho
  simp only [execOp, (ev_m hr hx).1]
  rw [Sem.run_bind, this]
  rfl
theorem conv_m (hr : Rel N outs E s a w) {o : Oper} {c d : TypeId} {x : Operand} {p v : Value} (ho : o.op = .convert c d x)
    (hx : s.ev x = some (.m p)) (h : pr P (convert c d p) = some v) (h1 : v.oneCell' = true) : ValOk P E s a w o (.m v) := by
  refine ⟨v, ?_, ⟨⟨0, rfl, h1⟩, fun _ => h1⟩⟩
  have := pr_run w h
  obtain ⟨dst, op', type, pos, after, guard⟩ := o
  cases ho
  simp only [execOp, (ev_m hr hx).1]
  rw [Sem.run_bind, this]
  rfl
theorem load_v (hti : TIok P ti) (hr : Rel N outs E s a w) {o : Oper} {t : TypeId} {x : Operand} {v : V} (ho : o.op = .load t x)
    (h : eff P ti s.ev s.get (.load t x) = some (.val v)) : ValOk P E s a w o v := by
  obtain ⟨dst, op', type, pos, after, guard⟩ := o
  cases ho
  simp only [eff] at h
  split at h
  · rename_i r off hx
    split at h
    · rename_i e cs hg
      obtain ⟨v', hv, he⟩ := Option.map_eq_some_iff.1 h
      cases he
      obtain ⟨us, hb, hl, hc, _⟩ := hr.objs r _ hg
      obtain ⟨u, hu, h1⟩ := load_of hti hv (b := E.b r) (o := off) (w := w) (E := E) (ob := s.get) (fun j y hj => by
        rw [List.getElem?_drop] at hj
        obtain ⟨z, hz, hz1, hz2⟩ := hc _ _ hj
        exact ⟨z, by simp [World.cell?, hb, hz], hz1, hz2⟩)
      refine ⟨u, ?_, Rv.of1 h1⟩
      simp only [execOp, (ev_ptr hr hx).2, Instr.loadAt, Instr.sureAddr]
      rw [Sem.run_bind]
      simp [hu]
    · cases h
  · rename_i cs hx
    obtain ⟨v', hv, he⟩ := Option.map_eq_some_iff.1 h
    cases he
    obtain ⟨⟨n, b, off, hu0, hc⟩, -⟩ := ev_sound hr hx
    obtain ⟨u, hu, h1⟩ := load_of hti hv (b := b) (o := off) (w := w) (E := E) (ob := s.get) (fun j y hj => by
      rw [List.getElem?_map] at hj
      obtain ⟨x', hx', rfl⟩ := Option.map_eq_some_iff.1 hj
      obtain ⟨hs, y', hy', hp⟩ := hc j x' hx'
      refine ⟨y', hy', ?_, n, hp⟩
      cases n <;> cases x' <;> first
        | exact hp.1 ▸ hp.2
        | (rw [show y' = _ from hp]; rfl)
        | exact hp.elim
        | (obtain ⟨A, c, hu', _⟩ := hp; rw [hu']; rfl)
        | (obtain ⟨A, c, hu'⟩ := hp; rw [hu']; rfl))
    refine ⟨u, ?_, Rv.of1 h1⟩
    simp only [execOp, hu0, Instr.loadAt, Instr.sureAddr]
    rw [Sem.run_bind]
    simp [hu]
  · cases h

theorem move_v (hr : Rel N outs E s a w) {o : Oper} {x : Operand} {v : V} (ho : o.op = .move x ∨ o.op = .assign x) (h : (s.ev x).map Eff.val = some (.val v)) : ValOk P E s a w o v := by
  obtain ⟨v', hv, he⟩ := Option.map_eq_some_iff.1 h
  cases he
  refine ⟨a.eval x, ?_, ev_sound hr hv⟩
  obtain ⟨dst, op', type, pos, after, guard⟩ := o
  rcases ho with ho | ho <;> (cases ho; rfl)
theorem Rv.m {ob : Ref → Option Ob} {v : Value} (h : v.oneCell' = true) : Rv w E ob (.m v) v := ⟨⟨0, rfl, h⟩, fun _ => h⟩
theorem pickV_sound {ob : Ref → Option Ob} {t : Bool} {x y : V} {p q : Value} (hx : Rv w E ob x p) (hy : Rv w E ob y q) : Rv w E ob (pickV t x y) (if t then p else q) := by
  unfold pickV
  split
  · rename_i b c
    obtain ⟨⟨n, hn⟩, -⟩ := hx
    obtain ⟨⟨m, hm⟩, -⟩ := hy
    have e1 : p = .bool b := by cases n <;> exact hn.1
    have e2 : q = .bool c := by cases m <;> exact hm.1
    subst e1 e2
    cases t <;> exact Rv.m rfl
  · cases t
    · exact hy
    · exact hx
theorem pick_v (hr : Rel N outs E s a w) {o : Oper} {c x y : Operand} {v : V} (ho : o.op = .pick c x y) (h : eff P ti s.ev s.get (.pick c x y) = some (.val v)) : ValOk P E s a w o v := by
  simp only [eff] at h
  split at h
  case h_2 => cases h
  rename_i t vx vy hc hx hy
  cases h
  refine ⟨if t then a.eval x else a.eval y, ?_, pickV_sound (ev_sound hr hx) (ev_sound hr hy)⟩
  obtain ⟨dst, op', type, pos, after, guard⟩ := o
  cases ho
  simp only [execOp, (ev_m hr hc).1, asBool]
  cases t <;> rfl
theorem extract_v (hr : Rel N outs E s a w) {o : Oper} {x : Operand} {i : Nat} {v : V} (ho : o.op = .extract x i) (h : eff P ti s.ev s.get (.extract x i) = some (.val v)) : ValOk P E s a w o v := by
  simp only [eff] at h
  split at h
  case h_2 => cases h
  rename_i vs hx
  obtain ⟨v', hv, he⟩ := Option.map_eq_some_iff.1 h
  cases he
  obtain ⟨us, hu, hl, hc⟩ := ev_sound hr hx
  obtain ⟨y, hy, h1⟩ := hc i _ hv
  refine ⟨y, ?_, Rv.of1 h1⟩
  obtain ⟨dst, op', type, pos, after, guard⟩ := o
  cases ho
  simp [execOp, Instr.extract, hu, hy]
theorem nilCheck_v (hr : Rel N outs E s a w) {o : Oper} {x : Operand} {v : V} (ho : o.op = .nilCheck x) (h : eff P ti s.ev s.get (.nilCheck x) = some (.val v)) : ValOk P E s a w o v := by
  have key : ∀ u, a.eval x = u → (∃ ad, u = .pointer (some ad)) ∨ (∃ f p cs, u = .func (.func f) p cs) → (execOp a.eval o).run P w = .ok (.value u) w := by
    intro u hu h
    obtain ⟨dst, op', type, pos, after, guard⟩ := o
    cases ho
    simp only [execOp, hu]
    rcases h with ⟨ad, rfl⟩ | ⟨f, p, cs, rfl⟩ <;> rfl
  simp only [eff] at h
  split at h
  · rename_i r off hx
    cases h
    exact ⟨_, key _ rfl (.inl ⟨_, (ev_ptr hr hx).2⟩), ev_sound hr hx⟩
  · rename_i cs hx
    cases h
    have := ev_sound hr hx
    obtain ⟨⟨n, b, off, hu, _⟩, -⟩ := this
    exact ⟨_, key _ rfl (.inl ⟨_, hu⟩), ev_sound hr hx⟩
  · rename_i f cs hx
    cases h
    have := ev_sound hr hx
    exact ⟨_, key _ rfl (.inr ⟨_, _, _, this.1.2⟩), ev_sound hr hx⟩
  · rename_i f p q hx
    cases h
    exact ⟨_, key _ rfl (.inr ⟨_, _, _, (ev_m hr hx).1⟩), ev_sound hr hx⟩
  · cases h
theorem allM_sound {ob : Ref → Option Ob} : ∀ {cs : List C} {vs us : List Value}, allM cs = some vs → us.length = cs.length → (∀ (j : Nat) (x : C), cs[j]? = some x → ∃ y : Value, us[j]? = some y ∧ y.oneCell' = true ∧ Rc w E ob x y) → us = vs
  | [], vs, us, h, hl, _ => by
    cases h
    exact List.eq_nil_of_length_eq_zero hl
  | x :: cs, vs, us, h, hl, hc => by
    simp only [allM] at h
    split at h
    case h_2 => cases h
    rename_i y r hy hr
    cases h
    cases us with
    | nil => simp at hl
    | cons u us =>
      have e1 : u = y := by
        obtain ⟨y', hy', _, hp⟩ := hc 0 x rfl
        cases hy'
        unfold C.m? at hy
        split at hy
        · cases hy
          obtain ⟨n, hn⟩ := hp
          cases n <;> exact hn.1
        · cases hy
      rw [e1, allM_sound (us := us) hr (by simpa using hl) (fun j z hz => by simpa using hc (j + 1) z (by simpa using hz))]
theorem makeIface_v (hti : TIok P ti) (hr : Rel N outs E s a w) {o : Oper} {t : TypeId} {x : Operand} {v : V} (ho : o.op = .makeInterface t x) (h : eff P ti s.ev s.get (.makeInterface t x) = some (.val v)) : ValOk P E s a w o v := by
  have key : ∀ k, kdOf ti t = some k → k ≠ .iface → ∀ u, a.eval x = u → (execOp a.eval o).run P w = .ok (.value (.iface t u)) w := by
    intro k hk hne u hu
    obtain ⟨dst, op', type, pos, after, guard⟩ := o
    cases ho
    have hK := kd_of hti hk
    simp only [execOp, hu, Instr.makeInterface]
    unfold KdOk at hK
    cases k with
    | iface => exact absurd rfl hne
    | struct fs => obtain ⟨fa, hK, _⟩ := hK; simp [run_underlying hK]
    | map k e => simp [run_underlying hK.1]
    | func => obtain ⟨_, _, _, hK⟩ := hK; simp [run_underlying hK]
    | _ => simp [run_underlying hK]
  simp only [eff] at h
  split at h
  · rename_i p hx
    split at h
    · cases h
    · cases h
    · rename_i hne1 hne2
      cases h
      cases hk : kdOf ti t with
      | none => exact absurd hk hne2
      | some k => exact ⟨_, key k hk (fun e => hne1 (by rw [hk, e])) _ (ev_m hr hx).1, Rv.m rfl⟩
  · rename_i cs hx
    split at h
    · rename_i fs vs hk hv
      cases h
      obtain ⟨us, hu, hl, hc⟩ := ev_sound hr hx
      have := allM_sound hv hl hc
      subst this
      exact ⟨_, key _ hk (by simp) _ hu, Rv.m rfl⟩
    · cases h
  · cases h
theorem allRef_sound {ob : Ref → Option Ob} : ∀ {vs : List V} {l : List Ref} {us : List Value}, allRef vs = some l → us.length = vs.length → (∀ (j : Nat) (x : V), vs[j]? = some x → ∃ y : Value, us[j]? = some y ∧ Rv w E ob x y) → us = l.map (fun r => .pointer (some ⟨E.b r, 0, none⟩)) ∧ ∀ r ∈ l, live ob r
  | [], l, us, h, hl, _ => by
    cases h
    exact ⟨List.eq_nil_of_length_eq_zero hl, fun r hm => by simp at hm⟩
  | v :: vs, l, us, h, hl, hc => by
    unfold allRef at h
    split at h
    · cases ‹_ :: _ = []›
    · rename_i r l' heq
      cases heq
      obtain ⟨l', hl', he⟩ := Option.map_eq_some_iff.1 h
      cases he
      cases us with
      | nil => simp at hl
      | cons u us =>
        obtain ⟨y', hy', hp⟩ := hc 0 _ rfl
        cases hy'
        obtain ⟨h1, h2⟩ := allRef_sound hl' (by simpa using hl) (fun j z hz => by simpa using hc (j + 1) z (by simpa using hz))
        refine ⟨by rw [h1, show u = _ from hp.1.2]; rfl, fun q hq => ?_⟩
        rcases List.mem_cons.1 hq with rfl | hq
        · exact hp.1.1
        · exact h2 q hq
    · cases h
theorem evList_sound (hr : Rel N outs E s a w) : ∀ {l : List Operand} {vs : List V}, evList s.ev l = some vs → (l.map a.eval).length = vs.length ∧ ∀ (j : Nat) (x : V), vs[j]? = some x → ∃ y : Value, (l.map a.eval)[j]? = some y ∧ Rv w E s.get x y
  | [], vs, h => by
    cases h
    exact ⟨rfl, fun j x hx => by simp at hx⟩
  | x :: l, vs, h => by
    simp only [evList] at h
    split at h
    case h_2 => cases h
    rename_i v r hv hl
    cases h
    obtain ⟨h1, h2⟩ := evList_sound hr hl
    refine ⟨by simpa using h1, fun j y hy => ?_⟩
    cases j with
    | zero => cases hy; exact ⟨_, rfl, ev_sound hr hv⟩
    | succ j => simpa using h2 j y (by simpa using hy)
theorem makeFunc_v (hr : Rel N outs E s a w) {o : Oper} {f : FuncId} {first caps : Array Operand} {v : V} (ho : o.op = .makeFunc (.func f) first caps) (h : eff P ti s.ev s.get (.makeFunc (.func f) first caps) = some (.val v)) : ValOk P E s a w o v := by
  simp only [eff] at h
  split at h
  case isFalse => cases h
  rename_i h0
  obtain ⟨l, hl, he⟩ := Option.map_eq_some_iff.1 h
  cases he
  obtain ⟨vs, hv, hl⟩ := Option.bind_eq_some_iff.1 hl
  obtain ⟨hlen, hall⟩ := evList_sound hr hv
  obtain ⟨h1, h2⟩ := allRef_sound hl hlen hall
  have hf : first = #[] := Array.eq_empty_of_size_eq_zero h0
  subst hf
  refine ⟨.func (.func f) #[] (l.map fun r => .pointer (some ⟨E.b r, 0, none⟩)).toArray, ?_, ⟨h2, rfl⟩, fun _ => rfl⟩
  obtain ⟨dst, op', type, pos, after, guard⟩ := o
  cases ho
  have h3 : caps.map a.eval = (l.map fun r => Value.pointer (some ⟨E.b r, 0, none⟩)).toArray := by
    rw [← h1]; exact Array.toList_inj.1 (by simp)
  simp [execOp, Instr.makeFunc, h3]
end
end Go.Vx
namespace Go.Vx
open Go
section
variable {P : Program} {ti : TI} {N : Nat} {outs : Nat → Prop} {E : Env} {s : S} {a : Act} {w : World} {ob : Ref → Option Ob}

theorem Rp.one {n : Nat} {x : D} {u : Value} {st : Nat → Nat → Prop} (h : Rp w st n x u) : u.oneCell' = true := by
  cases n <;> cases x <;> first
    | exact h.1 ▸ h.2
    | (rw [show u = _ from h]; rfl)
    | exact h.elim
    | (obtain ⟨A, c, hu', _⟩ := h; rw [hu']; rfl)
    | (obtain ⟨A, c, hu'⟩ := h; rw [hu']; rfl)
theorem Rc.one {x : C} {u : Value} (h : Rc w E ob x u) (hd : x ≠ .dead) : u.oneCell' = true := by
  cases x with
  | d x => obtain ⟨n, h⟩ := h; exact h.one
  | tk r sz rs => obtain ⟨⟨n, h⟩, _⟩ := h; exact h.one
  | sl r off sz n => obtain ⟨_, c, _, _, h⟩ := h; rw [h]; rfl
  | ptr r o => rw [h.2]; rfl
  | rp cs => obtain ⟨n, b, o, h, _⟩ := h; rw [h]; rfl
  | mp r => rw [h.2]; rfl
  | fn f caps => rw [h.2]; rfl
  | dead => exact absurd rfl hd
theorem R1.of_c {x : C} {u : Value} (h : Rc w E ob x u) : R1 w E ob (.c x) u := ⟨h, fun hd => h.one hd⟩
/-- A part of a struct. -/
theorem part_of (hti : TIok P ti) {t : TypeId} {cs : List C} {v : V} {off : Nat} {us : List Value} (h : asV ti t (cs.drop off) = some v) (hl : us.length = cs.length)
    (hc : ∀ (j : Nat) (x : C), cs[j]? = some x → ∃ y : Value, us[j]? = some y ∧ y.oneCell' = true ∧ Rc w E ob x y) :
    ∃ u, (part t us.toArray off).run P w = .ok u w ∧ R1 w E ob v u := by
  unfold asV at h
  cases hr : ti t with
  | none => rw [hr] at h; cases h
  | some r =>
    rw [hr] at h
    simp only [] at h
    have hA := isAgg_of hti hr w
    have hS := sizeOf_of hti hr w
    by_cases ha : r.agg = true
    · rw [if_pos ha] at h
      split at h
      case isFalse => cases h
      rename_i hle
      cases h
      refine ⟨.agg (us.toArray.extract off (off + r.size)), by simp [part, hA, hS, ha], (us.drop off).take r.size, ?_, ?_, fun j x hx => ?_⟩
      · rw [List.extract_toArray]; simp
      · simp at hle ⊢; omega
      · rw [List.getElem?_take] at hx
        split at hx
        case isFalse => cases hx
        rename_i hj
        rw [List.getElem?_drop] at hx
        obtain ⟨y, hy, h1, hp⟩ := hc _ x hx
        exact ⟨y, by rw [List.getElem?_take, if_pos hj, List.getElem?_drop]; exact hy, h1, hp⟩
    · rw [if_neg ha] at h
      cases hd : cs.drop off with
      | nil => rw [hd] at h; cases h
      | cons x cs' =>
        rw [hd] at h
        cases h
        obtain ⟨y, hy, h1, hp⟩ := hc off x (by rw [← List.head?_drop, hd]; rfl)
        refine ⟨y, ?_, hp, fun _ => h1⟩
        simp [part, hA, ha, hy]
theorem field_v (hti : TIok P ti) (hr : Rel N outs E s a w) {o : Oper} {t : TypeId} {x : Operand} {f : Nat} {v : V} (ho : o.op = .field t x f)
    (h : eff P ti s.ev s.get (.field t x f) = some (.val v)) : ValOk P E s a w o v := by
  simp only [eff] at h
  split at h
  case h_2 => cases h
  rename_i fs cs hk hx
  split at h
  case h_2 => cases h
  rename_i p hp
  obtain ⟨v', hv, he⟩ := Option.map_eq_some_iff.1 h
  cases he
  obtain ⟨us, hu, hl, hc⟩ := ev_sound hr hx
  obtain ⟨fa, hU, hs, hf⟩ := kd_of hti hk
  obtain ⟨fd, hfd, h1, h2, _⟩ := hf f p hp
  obtain ⟨u, hu', hR⟩ := part_of hti (w := w) (E := E) (ob := s.get) hv hl hc
  refine ⟨u, ?_, Rv.of1 hR⟩
  obtain ⟨dst, op', type, pos, after, guard⟩ := o
  cases ho
  simp [execOp, hu, Instr.field, run_underlying hU, hfd, asAgg, h1, h2, hu']
theorem fieldAddr_v (hti : TIok P ti) (hr : Rel N outs E s a w) {o : Oper} {t : TypeId} {x : Operand} {f : Nat} {v : V} (ho : o.op = .fieldAddr t x f)
    (h : eff P ti s.ev s.get (.fieldAddr t x f) = some (.val v)) : ValOk P E s a w o v := by
  have key : ∀ fs p, kdOf ti t = some (.struct fs) → fs[f]? = some p → ∀ b off, a.eval x = .pointer (some ⟨b, off, none⟩) → (execOp a.eval o).run P w = .ok (.value (.pointer (some ⟨b, off + p.1, none⟩))) w := by
    intro fs p hk hp b off hu
    obtain ⟨fa, hU, hs, hf⟩ := kd_of hti hk
    obtain ⟨fd, hfd, h1, h2, i, hi, hz⟩ := hf f p hp
    obtain ⟨dst, op', type, pos, after, guard⟩ := o
    cases ho
    simp [execOp, hu, Instr.fieldAt, run_underlying hU, hfd, Instr.sureAddr, fieldPlace, sizeOf, typeInfo, hi, hz, add_none, h1]
  simp only [eff] at h
  split at h
  · rename_i fs r off hk hx
    obtain ⟨p, hp, he⟩ := Option.map_eq_some_iff.1 h
    cases he
    have := ev_ptr hr hx
    exact ⟨_, key fs p hk hp _ _ this.2, ⟨this.1, rfl⟩, fun _ => rfl⟩
  · rename_i fs cs hk hx
    obtain ⟨p, hp, he⟩ := Option.map_eq_some_iff.1 h
    cases he
    obtain ⟨⟨n, b, off, hu, hc⟩, -⟩ := ev_sound hr hx
    refine ⟨_, key fs p hk hp _ _ hu, ⟨n, b, off + p.1, rfl, fun j y hy => ?_⟩, fun _ => rfl⟩
    rw [List.getElem?_drop] at hy
    obtain ⟨h1, z, hz, hp'⟩ := hc _ _ hy
    rw [Nat.add_assoc]
    exact ⟨h1, z, hz, hp'⟩
  · cases h
theorem index_v (hti : TIok P ti) (hr : Rel N outs E s a w) {o : Oper} {t : TypeId} {x i : Operand} {v : V} (ho : o.op = .index t x i)
    (h : eff P ti s.ev s.get (.index t x i) = some (.val v)) : ValOk P E s a w o v := by
  simp only [eff] at h
  split at h
  case h_2 => cases h
  rename_i str k n ht hx hi
  split at h
  case isFalse => cases h
  rename_i h0
  split at h
  case h_2 => cases h
  rename_i b hb
  cases h
  refine ⟨_, ?_, Rv.m rfl⟩
  obtain ⟨dst, op', type, pos, after, guard⟩ := o
  cases ho
  simp only [execOp, (ev_m hr hx).1, (ev_m hr hi).1, Instr.index]
  simp [asIntOf, run_underlying (kd_of hti ht), h0, hb]
/-- The rows that a slice holds, where they lie. -/
theorem rows_of {y : C} {rs : List (List D)} (h : y.rows? = some rs) {u : Value} (hu : Rc w E ob y u) :
    (rs = [] ∧ y = .d .nl ∧ u = .slice none 0 0) ∨ ∃ n sz, y.sz? = some sz ∧ Rp w E.st (n + 1) (.rows sz rs) u := by
  unfold C.rows? at h
  split at h
  · cases h
    obtain ⟨n, hn⟩ := hu
    exact .inl ⟨rfl, rfl, by cases n <;> exact hn⟩
  · cases h
    obtain ⟨n, hn⟩ := hu
    exact .inr ⟨n, _, rfl, hn.em_rows⟩
  · cases h
    obtain ⟨n, hn⟩ := hu
    exact .inr ⟨n, _, rfl, hn.up (by omega)⟩
  · cases h
    obtain ⟨⟨n, hn⟩, _⟩ := hu
    exact .inr ⟨n, _, rfl, hn.up (by omega)⟩
  · cases h
theorem indexAddr_v (hti : TIok P ti) (hr : Rel N outs E s a w) {o : Oper} {t : TypeId} {x i : Operand} {v : V} (ho : o.op = .indexAddr t x i)
    (h : eff P ti s.ev s.get (.indexAddr t x i) = some (.val v)) : ValOk P E s a w o v := by
  simp only [eff] at h
  split at h
  case h_2 => cases h
  rename_i vx k n hx hi
  unfold effIndexAddr at h
  split at h
  · rename_i e r off sz m hk
    split at h
    case h_2 => cases h
    rename_i q he
    split at h
    case isFalse => cases h
    rename_i h0
    cases h
    obtain ⟨⟨hl, c, hc1, hc2, hu⟩, -⟩ := ev_sound hr hx
    refine ⟨.pointer (some ⟨E.b r, off + n.toNat * sz, none⟩), ?_, ⟨hl, rfl⟩, fun _ => rfl⟩
    obtain ⟨dst, op', type, pos, after, guard⟩ := o
    cases ho
    have hK := kd_of hti hk
    have hb : 0 ≤ n ∧ n < (m : Int) := ⟨h0.1, h0.2.1⟩
    simp only [execOp, (ev_m hr hi).1, hu, Instr.indexAt]
    simp [asIntOf, run_underlying hK, hb, sizeOf_of hti he, add_none, h0.2.2.2]
  · rename_i e y _ hk
    split at h
    case h_2 => cases h
    rename_i rs r hrs he
    split at h
    case isFalse => cases h
    rename_i h0
    split at h
    case h_2 => cases h
    rename_i row hrow
    split at h
    case isFalse => cases h
    rename_i hlen
    cases h
    have hlt : n.toNat < rs.length := (List.getElem?_eq_some_iff.1 hrow).1
    rcases rows_of hrs (ev_sound hr hx).1 with ⟨rfl, _⟩ | ⟨m, sz, _, A, c, hu, _, hsz, hc⟩
    · simp at hrow
    have hszr : sz = r.size := by rw [← hsz row (List.mem_of_getElem? hrow), hlen]
    subst hszr
    obtain ⟨b, off, y0, hA, _⟩ := hc _ _ hrow 0 _ (List.getElem?_eq_getElem (by omega))
    refine ⟨.pointer (some ⟨b, off + n.toNat * r.size, none⟩), ?_, ⟨m, b, off + n.toNat * r.size, rfl, fun j z hz => ?_⟩, fun _ => rfl⟩
    · obtain ⟨dst, op', type, pos, after, guard⟩ := o
      cases ho
      have hK := kd_of hti hk
      simp only [execOp, (ev_m hr hi).1, hu, hA, Instr.indexAt]
      have hb : 0 ≤ n ∧ n < (rs.length : Int) := ⟨h0.1, by omega⟩
      simp [asIntOf, run_underlying hK, hb, sizeOf_of hti he, add_none]
    · obtain ⟨b', off', z', hA', hs, hz', hp⟩ := hc _ _ hrow j z hz
      rw [hA] at hA'
      injection hA' with hA'
      injection hA' with e1 e2
      subst e1 e2
      rw [Nat.add_assoc]
      exact ⟨hs, z', hz', hp⟩
  · rename_i len e r off hk
    split at h
    case h_2 => cases h
    rename_i q he
    split at h
    case isFalse => cases h
    rename_i h0
    cases h
    have hp := ev_ptr hr hx
    refine ⟨.pointer (some ⟨E.b r, off + n.toNat * q.size, none⟩), ?_, ⟨hp.1, rfl⟩, fun _ => rfl⟩
    obtain ⟨dst, op', type, pos, after, guard⟩ := o
    cases ho
    have hK := kd_of hti hk
    have hb : 0 ≤ n ∧ n < (len : Int) := ⟨h0.1, h0.2.1⟩
    simp only [execOp, (ev_m hr hi).1, hp.2, Instr.indexAt]
    simp [asIntOf, run_underlying hK, hb, sizeOf_of hti he, add_none, Instr.sureAddr]
  · cases h

theorem evOpt_sound (hr : Rel N outs E s a w) {x : Option Operand} {l : Option V} {d : Nat} {n : Int} (h : evOpt s.ev x = some l) (hb : bound l d = some n) :
    (x.map a.eval = none ∧ n = d) ∨ ∃ k, x.map a.eval = some (.int k n) := by
  cases x with
  | none =>
    cases h
    cases hb
    exact .inl ⟨rfl, rfl⟩
  | some x =>
    obtain ⟨v, hv, he⟩ := Option.map_eq_some_iff.1 h
    subst he
    unfold bound at hb
    split at hb
    · cases ‹some _ = none›
    · rename_i k m heq
      cases heq
      cases hb
      exact .inr ⟨k, by rw [Option.map_some, (ev_m hr hv).1]⟩
    · cases hb
theorem bounds_of {isSlice : Bool} {len cap : Nat} {lo hi : Option Value} {l h : Int} (h0 : 0 ≤ l ∧ l ≤ h ∧ h ≤ len) (hc : len ≤ cap)
    (hl : (lo = none ∧ l = ((0 : Nat) : Int)) ∨ ∃ k, lo = some (.int k l)) (hh : (hi = none ∧ h = (len : Int)) ∨ ∃ k, hi = some (.int k h)) :
    (Instr.sliceBounds isSlice len cap lo hi none).run P w = .ok (l.toNat, h.toNat, cap) w := by
  have e1 : 0 ≤ h ∧ h ≤ (cap : Int) := by omega
  rcases hh with ⟨rfl, rfl⟩ | ⟨k, rfl⟩ <;> rcases hl with ⟨rfl, rfl⟩ | ⟨k', rfl⟩
  · simp [Instr.sliceBounds]
  · have e2 : 0 ≤ l ∧ l ≤ (len : Int) := by omega
    simp [Instr.sliceBounds, Instr.sliceBound, asIntOf, e2]
  · simp [Instr.sliceBounds, Instr.sliceBound, asIntOf, e1]
  · have e2 : 0 ≤ l ∧ l ≤ (h.toNat : Int) := by omega
    simp [Instr.sliceBounds, Instr.sliceBound, asIntOf, e1, e2]
    omega
theorem slice_rows {n sz : Nat} {rs : List (List D)} {A : Option Addr} {c l h : Nat} {st : Nat → Nat → Prop} (hp : Rp w st (n + 1) (.rows sz rs) (.slice A rs.length c)) (hl : l ≤ h) (hh : h ≤ rs.length) :
    Rp w st (n + 1) (.rows sz ((rs.take h).drop l)) (.slice (if c = l then A else A.map (·.add (l * sz))) (h - l) (c - l)) := by
  obtain ⟨A', c', hu, hlen, hsz, hc⟩ := hp
  injection hu with e1 _ e2
  subst e1 e2
  have hL : ((rs.take h).drop l).length = h - l := by simp; omega
  refine ⟨if c = l then A else A.map (·.add (l * sz)), c - l, by rw [hL], ⟨by rw [hL]; omega, by rw [hL]; omega, fun hA => by have := hlen.2.2 (by split at hA; exact hA; simpa using hA); omega⟩, fun r hm => hsz r (List.mem_of_mem_take (List.mem_of_mem_drop hm)), fun i r hi j x hx => ?_⟩
  rw [List.getElem?_drop, List.getElem?_take] at hi
  split at hi
  case isFalse => cases hi
  obtain ⟨b, o, y, hA, hs, hy, hR⟩ := hc _ _ hi j x hx
  have hne : c ≠ l := by omega
  rw [if_neg hne, hA]
  refine ⟨b, o + l * sz, y, by simp [add_none], ?_, ?_, hR⟩
  · have : o + l * sz + (i * sz + j) = o + ((l + i) * sz + j) := by rw [Nat.add_mul]; omega
    rw [this]; exact hs
  · have : o + l * sz + (i * sz + j) = o + ((l + i) * sz + j) := by rw [Nat.add_mul]; omega
    rw [this]; exact hy
theorem slice_v (hti : TIok P ti) (hr : Rel N outs E s a w) {o : Oper} {t : TypeId} {x : Operand} {lo hi : Option Operand} {v : V} (ho : o.op = .slice t x lo hi none)
    (h : eff P ti s.ev s.get (.slice t x lo hi none) = some (.val v)) : ValOk P E s a w o v := by
  simp only [eff] at h
  split at h
  · rename_i str l h' hk hx hl hh
    simp only [effSlice] at h
    split at h
    case h_2 => cases h
    rename_i l' h'' hl' hh'
    split at h
    case isFalse => cases h
    rename_i h0
    cases h
    have hb := bounds_of (P := P) (w := w) (isSlice := false) h0 (Nat.le_refl _) (evOpt_sound hr hl hl') (evOpt_sound hr hh hh')
    refine ⟨_, ?_, Rv.m rfl⟩
    obtain ⟨dst, op', type, pos, after, guard⟩ := o
    cases ho
    simp [execOp, (ev_m hr hx).1, Instr.sliceAt, Instr.slice, run_underlying (kd_of hti hk), hb]
  · rename_i e y l h' hk hx hl hh
    split at h
    case h_2 => cases h
    rename_i r sz0 hre hsz0
    unfold effSlice at h
    split at h
    · cases ‹V.c _ = _›; cases hsz0
    · rename_i q off sz n heq
      cases heq
      split at h
      case h_2 => cases h
      rename_i l' h'' hl' hh'
      split at h
      case isFalse => cases h
      rename_i h0
      cases h
      obtain ⟨h1, h2, h3, h4, h5⟩ := h0
      obtain ⟨⟨hlv, c, hc1, hc2, hu⟩, -⟩ := ev_sound hr hx
      have hb := bounds_of (P := P) (w := w) (isSlice := true) ⟨h2, h3, h4⟩ hc1 (evOpt_sound hr hl hl') (evOpt_sound hr hh hh')
      subst h1
      refine ⟨.slice (some ⟨E.b q, off + l'.toNat * r.size, none⟩) (h''.toNat - l'.toNat) (c - l'.toNat), ?_, ⟨hlv, c - l'.toNat, by omega, by omega, rfl⟩, fun _ => rfl⟩
      obtain ⟨dst, op', type, pos, after, guard⟩ := o
      cases ho
      have hne : c = l'.toNat → l'.toNat = 0 := by omega
      simp [execOp, hu, Instr.sliceAt, Instr.slice, run_underlying (kd_of hti hk), hb, sizeOf_of hti hre]
      by_cases hcl : c = l'.toNat
      · simp [hcl, hne hcl]
      · simp [hcl, add_none]
    · rename_i y' _ heq
      cases heq
      split at h
      case h_2 => cases h
      rename_i sz rs l' hsz hrs hl'
      split at h
      case h_2 => cases h
      rename_i h'' hh'
      split at h
      case isFalse => cases h
      rename_i h0
      cases h
      obtain ⟨h1, h2, h3, h4⟩ := h0
      have hy := (ev_sound hr hx).1
      rcases rows_of hrs hy with ⟨_, rfl, _⟩ | ⟨n, sz', hsz', hp⟩
      · cases hsz
      rw [hsz] at hsz'
      cases hsz'
      subst h1
      have hp' := hp
      obtain ⟨A, c, hu, hlen, _⟩ := hp'
      rw [hu] at hp
      have hb := bounds_of (P := P) (w := w) (isSlice := true) ⟨h2, h3, h4⟩ hlen.1 (evOpt_sound hr hl hl') (evOpt_sound hr hh hh')
      have hS := slice_rows hp (l := l'.toNat) (h := h''.toNat) (by omega) (by omega)
      refine ⟨_, ?_, ⟨⟨_, hS⟩, fun _ => rfl⟩⟩
      obtain ⟨dst, op', type, pos, after, guard⟩ := o
      cases ho
      simp [execOp, hu, Instr.sliceAt, Instr.slice, run_underlying (kd_of hti hk), hb, sizeOf_of hti hre]
    · cases h
  · cases h
theorem getMap {r : Nat} {es : Array MapEntry} {clock : Nat} (hb : w.heap[r]? = some (.map es clock)) : (getObj r).run P w = .ok (.map es clock) w := by simp [getObj, Sem.run, hb]
theorem len_run (hti : TIok P ti) {o : Oper} {x : Operand} {t : TypeId} (ho : o.op = .call { callee := .builtin .len, args := #[x], argTypes := #[t] }) :
    (execOp a.eval o).run P w = ((Builtin.len_ #[t] o.type #[a.eval x]).run P w).andThen fun v w' => .ok (.value v) w' := by
  obtain ⟨dst, op', type, pos, after, guard⟩ := o
  cases ho
  simp [execOp, resolve, invoke, builtin]
theorem lenOk_str {t : TypeId} {m : Value} (h : lenOk ti t (.c (.d (.m m))) = true) : kdOf ti t = some .string := by
  unfold lenOk at h; split at h <;> simp_all
theorem lenOk_mp {t : TypeId} {m : Ref} (h : lenOk ti t (.c (.mp m)) = true) : ∃ k e, kdOf ti t = some (.map k e) := by
  unfold lenOk at h; split at h <;> simp_all
theorem lenOk_nl {t : TypeId} (h : lenOk ti t (.c (.d .nl)) = true) : ∃ e, kdOf ti t = some (.slice e) := by
  unfold lenOk at h; split at h <;> simp_all
theorem lenOk_em {t : TypeId} {sz : Nat} (h : lenOk ti t (.c (.d (.em sz))) = true) : ∃ e, kdOf ti t = some (.slice e) := by
  unfold lenOk at h; split at h <;> simp_all
theorem lenOk_rows {t : TypeId} {sz : Nat} {rs : List (List D)} (h : lenOk ti t (.c (.d (.rows sz rs))) = true) : ∃ e, kdOf ti t = some (.slice e) := by
  unfold lenOk at h; split at h <;> simp_all
theorem lenOk_sl {t : TypeId} {r : Ref} {off sz n : Nat} (h : lenOk ti t (.c (.sl r off sz n)) = true) : ∃ e, kdOf ti t = some (.slice e) := by
  unfold lenOk at h; split at h <;> simp_all
theorem lenOk_tk {t : TypeId} {r : Ref} {sz : Nat} {rs : List (List D)} (h : lenOk ti t (.c (.tk r sz rs)) = true) : ∃ e, kdOf ti t = some (.slice e) := by
  unfold lenOk at h; split at h <;> simp_all
theorem len_v (hti : TIok P ti) (hr : Rel N outs E s a w) {o : Oper} {x : Operand} {t : TypeId} {vx v : V} (ho : o.op = .call { callee := .builtin .len, args := #[x], argTypes := #[t] })
    (hx : s.ev x = some vx) (hk : lenOk ti t vx = true)
    (h : effLen s.get vx = some (.val v)) : ValOk P E s a w o v := by
  unfold ValOk
  rw [len_run hti ho]
  have hv := ev_sound hr hx
  unfold effLen at h
  split at h
  · cases h
    refine ⟨_, ?_, Rv.m rfl⟩
    simp [Builtin.len_, run_underlying (kd_of hti (lenOk_str hk)), (ev_m hr hx).1, goInt]
  · cases h
    obtain ⟨e, hk⟩ := lenOk_nl hk
    obtain ⟨⟨n, hn⟩, -⟩ := hv
    have e1 : a.eval x = .slice none 0 0 := by cases n <;> exact hn
    refine ⟨_, ?_, Rv.m rfl⟩
    simp [Builtin.len_, run_underlying (kd_of hti hk), e1, goInt]
  · cases h
    obtain ⟨e, hk⟩ := lenOk_em hk
    obtain ⟨⟨n, hn⟩, -⟩ := hv
    obtain ⟨A, c, hu⟩ : ∃ A c, a.eval x = .slice (some A) 0 c := by cases n <;> exact hn
    refine ⟨_, ?_, Rv.m rfl⟩
    simp [Builtin.len_, run_underlying (kd_of hti hk), hu, goInt]
  · cases h
    obtain ⟨e, hk⟩ := lenOk_rows hk
    obtain ⟨⟨n, hn⟩, -⟩ := hv
    obtain ⟨A, c, hu, _⟩ := hn.up (show n ≤ n + 1 by omega)
    refine ⟨_, ?_, Rv.m rfl⟩
    simp [Builtin.len_, run_underlying (kd_of hti hk), hu, goInt]
  · cases h
    obtain ⟨e, hk⟩ := lenOk_tk hk
    obtain ⟨⟨⟨n, hn⟩, _⟩, -⟩ := hv
    obtain ⟨A, c, hu, _⟩ := hn.up (show n ≤ n + 1 by omega)
    refine ⟨_, ?_, Rv.m rfl⟩
    simp [Builtin.len_, run_underlying (kd_of hti hk), hu, goInt]
  · cases h
    obtain ⟨e, hk⟩ := lenOk_sl hk
    obtain ⟨⟨_, c, _, _, hu⟩, -⟩ := hv
    refine ⟨_, ?_, Rv.m rfl⟩
    simp [Builtin.len_, run_underlying (kd_of hti hk), hu, goInt]
  · split at h
    case h_2 => cases h
    rename_i r es hg
    cases h
    obtain ⟨k, e, hk⟩ := lenOk_mp hk
    obtain ⟨ents, clock, hb, ⟨hl, _⟩, _⟩ := hr.objs _ _ hg
    refine ⟨_, ?_, Rv.m rfl⟩
    simp [Builtin.len_, run_underlying (kd_of hti hk).1, (ev_mp hr hx).2, getMap hb, goInt, hl]
  · cases h

theorem ba_beq (a b : ByteArray) : (a == b) = decide (a = b) := by
  show (a.data == b.data) = _
  by_cases h : a = b
  · subst h; simp
  · rw [decide_eq_false h]
    simp only [beq_eq_false_iff_ne, ne_eq]
    exact fun e => h (ByteArray.ext e)
theorem toList_two' {α : Type} {x : Array α} {y z : α} (h : x.toList = [y, z]) : x = #[y, z] := Array.toList_inj.1 h
/-- A key of a type of keys. -/
def KeyK (P : Program) (k : TypeId) : Value → Prop
  | .string _ => P.underlying k = some .string
  | .int i _ => P.underlying k = some (.int i)
  | .agg a => ∃ e i p q, P.underlying k = some (.array 2 e) ∧ P.underlying e = some .string ∧ P.info? e = some i ∧ i.size = 1 ∧ a = #[.string p, .string q]
  | _ => False
theorem part_str {e : TypeId} {i : TypeInfo} (he : P.underlying e = some .string) (hi : P.info? e = some i) {xs : Array Value} {off : Nat} {v : Value} (hx : xs[off]? = some v) : (part e xs off).run P w = .ok v w := by
  simp [part, isAgg, run_underlying he, hx]
theorem checkKey_run {k : TypeId} {v : Value} (hk : KeyK P k v) (emp : Bool) : (Instr.checkKey emp 10000 k v).run P w = .ok () w := by
  show (Instr.checkKey emp (9998 + 1 + 1) k v).run P w = .ok () w
  generalize 9998 = n
  cases v <;> first | exact hk.elim | skip
  · simp [Instr.checkKey, run_underlying hk]
  · simp [Instr.checkKey, run_underlying hk]
  · obtain ⟨e, i, p, q, h1, h2, h3, h4, rfl⟩ := hk
    have hS : (sizeOf e).run P w = .ok 1 w := by simp [sizeOf, typeInfo, h3, h4]
    have hc : ∀ (v : Value), (Instr.checkKey emp (n + 1) e v).run P w = .ok () w := fun v => by simp [Instr.checkKey, run_underlying h2]
    rw [Instr.checkKey]
    simp only [Sem.run_bind, run_underlying h1, Result.andThen_ok]
    simp only [Std.Legacy.Range.forIn_eq_forIn_range', Std.Legacy.Range.size, Nat.sub_zero, Nat.add_one_sub_one, Nat.div_one]
    simp [List.range', Sem.run_bind, hS, part_str h2 h3 (xs := #[.string p, .string q]) (off := 0) rfl, part_str h2 h3 (xs := #[.string p, .string q]) (off := 1) rfl, hc]
theorem equal_pair {k e : TypeId} {i : TypeInfo} {p q p' q' : ByteArray} (h1 : P.underlying k = some (.array 2 e)) (h2 : P.underlying e = some .string) (h3 : P.info? e = some i) (h4 : i.size = 1) :
    (Op.equal k (.agg #[.string p, .string q]) (.agg #[.string p', .string q'])).run P w = .ok (decide (p = p') && decide (q = q')) w := by
  have hS : (sizeOf e).run P w = .ok 1 w := by simp [sizeOf, typeInfo, h3, h4]
  unfold Op.equal
  show (Op.equalIn (9998 + 1 + 1) k _ _).run P w = _
  generalize 9998 = n
  have hc : ∀ (a b : ByteArray), (Op.equalIn (n + 1) e (.string a) (.string b)).run P w = .ok (decide (a = b)) w := fun a b => by simp [Op.equalIn, run_underlying h2, ba_beq]
  rw [Op.equalIn]
  simp only [Sem.run_bind, run_underlying h1, Result.andThen_ok, hS]
  simp only [Std.Legacy.Range.forIn_eq_forIn_range', Std.Legacy.Range.size, Nat.sub_zero, Nat.add_one_sub_one, Nat.div_one]
  have hp0 : ∀ (x y : ByteArray), (part e #[.string x, .string y] 0).run P w = .ok (.string x) w := fun x y => part_str h2 h3 rfl
  have hp1 : ∀ (x y : ByteArray), (part e #[.string x, .string y] 1).run P w = .ok (.string y) w := fun x y => part_str h2 h3 rfl
  by_cases e1 : p = p' <;> by_cases e2 : q = q' <;> simp [List.range', Sem.run_bind, hp0, hp1, hc, e1, e2]
theorem findKey_run {k : TypeId} {kv : Value} (hk : KeyK P k kv) {ents : List MapEntry} {q : Option (Nat × Value)} (h : posE kv ents 0 = some q) : (Instr.findKey k kv ents).run P w = .ok q w := by
  have now : ∀ {d : TypeDesc} {ents : List MapEntry} {i : Nat} {q}, (∀ a b, sameK kv a = some b → Instr.sameNow d kv a = some b) → posE kv ents i = some q → Instr.findNow d kv ents i = some q := by
    intro d ents
    induction ents with
    | nil => intro i q _ h; exact h
    | cons e es ih =>
      intro i q hs h
      unfold posE at h
      unfold Instr.findNow
      split at h
      · rw [hs _ _ ‹_›]; exact h
      · rw [hs _ _ ‹_›]; exact ih hs h
      · cases h
  cases kv <;> first | exact hk.elim | skip
  · have hu : P.underlying k = some (.int _) := hk
    rw [Instr.findKey]
    simp only [Sem.run_bind, run_underlying hu, Result.andThen_ok]
    rw [now (fun a b hab => ?_) h]
    · rfl
    · cases a <;> simp [sameK] at hab
      obtain ⟨e, hb⟩ := hab
      subst e
      simp [Instr.sameNow, ← hb, BEq.beq]
  · have hu : P.underlying k = some .string := hk
    rw [Instr.findKey]
    simp only [Sem.run_bind, run_underlying hu, Result.andThen_ok]
    rw [now (fun a b hab => ?_) h]
    · rfl
    · cases a <;> simp [sameK] at hab
      simp [Instr.sameNow, ← hab, ba_beq]
  · obtain ⟨e, i, p, q0, h1, h2, h3, h4, rfl⟩ := hk
    rw [Instr.findKey]
    simp only [Sem.run_bind, run_underlying h1, Result.andThen_ok]
    have ask : ∀ {ents : List MapEntry} {j : Nat} {q}, posE (.agg #[.string p, .string q0]) ents j = some q → (Instr.findAsking k (.agg #[.string p, .string q0]) ents j).run P w = .ok q w := by
      intro ents
      induction ents with
      | nil => intro j q h; cases h; rfl
      | cons en es ih =>
        intro j q h
        unfold posE at h
        have heq : ∀ b, sameK (.agg #[.string p, .string q0]) en.key = some b → (Op.equal k (.agg #[.string p, .string q0]) en.key).run P w = .ok b w := by
          intro b hb
          cases hkey : en.key <;> rw [hkey] at hb <;> simp only [sameK] at hb <;> first | cases hb | skip
          rename_i b'
          split at hb
          · rename_i l1 l2 _ _ p' q' e1 e2
            cases hb
            simp at e1
            obtain ⟨rfl, rfl⟩ := e1
            have : b' = #[.string _, .string _] := toList_two' e2
            subst this
            exact equal_pair h1 h2 h3 h4
          · cases hb
        rw [Instr.findAsking]
        split at h
        · cases h
          simp [Sem.run_bind, heq _ ‹_›]
        · simp [Sem.run_bind, heq _ ‹_›, ih h]
        · cases h
    cases ents with
    | nil => cases h; rfl
    | cons en es =>
      simp only [Instr.findNow, Instr.sameNow]
      exact ask h
def Found (P : Program) (w : World) (e : TypeId) (v : Value) (g : Bool) : Option (Nat × Value) → Prop
  | some (_, u) => v = u ∧ g = true
  | none => (zeroValue e).run P w = .ok v w ∧ g = false
/-- A key of a map, asked for. -/
theorem findK_sound {kv : Value} : ∀ {es : List (Value × C)} {ents : List MapEntry} {r : Option C} {i0 : Nat}, findK kv es = some r → ents.length = es.length →
    (∀ (j : Nat) (q : Value) (x : C), es[j]? = some (q, x) → ∃ en : MapEntry, ents[j]? = some en ∧ en.key = q ∧ en.val.oneCell' = true ∧ Rc w E ob x en.val) →
    (match r with | none => posE kv ents i0 = some none | some x => ∃ i v, posE kv ents i0 = some (some (i, v)) ∧ v.oneCell' = true ∧ Rc w E ob x v)
  | [], ents, r, i0, h, hl, _ => by
    cases h
    have : ents = [] := List.eq_nil_of_length_eq_zero hl
    subst this
    rfl
  | (q, x) :: es, ents, r, i0, h, hl, hc => by
    cases ents with
    | nil => simp at hl
    | cons en ents =>
      obtain ⟨en', he, h1, h2, h3⟩ := hc 0 q x rfl
      cases he
      have ih := fun {r : Option C} (h : findK kv es = some r) => findK_sound (es := es) (ents := ents) (r := r) (i0 := i0 + 1) h (by simpa using hl) (fun j q' x' hj => by simpa using hc (j + 1) q' x' (by simpa using hj))
      unfold findK at h
      subst h1
      split at h
      · cases h
        exact ⟨i0, en.val, by simp [posE, ‹sameK _ _ = _›], h2, h3⟩
      · have := ih h
        simp only [posE, ‹sameK _ _ = _›]
        exact this
      · cases h
theorem keyOk_sound (hti : TIok P ti) {k : TypeId} {v : Value} (h : keyOk ti k v = true) : KeyK P k v := by
  unfold keyOk at h
  split at h
  · exact kd_of (k := .string) hti ‹_›
  · rename_i i j m _
    have e : i = j := by simpa using h
    subst e
    exact kd_of (k := .int i) hti ‹_›
  · rename_i e a hk
    split at h
    · rename_i b z sz p q he hl
      obtain ⟨i, h1, h2, h3⟩ := info_of hti he
      exact ⟨e, i, p, q, kd_of (k := .array 2 e) hti hk, (hti _ _ he).kd, h1, h2, toList_two' hl⟩
    · cases h
  · cases h
theorem keyV_sound (hr : Rel N outs E s a w) {x : Operand} {v : V} {kv : Value} (hx : s.ev x = some v) (hk : keyV v = some kv) : a.eval x = kv := by
  unfold keyV at hk
  split at hk
  · cases hk; exact (ev_m hr hx).1
  · obtain ⟨l, hl, rfl⟩ := Option.map_eq_some_iff.1 hk
    obtain ⟨us, hu, hlen, hc⟩ := ev_sound hr hx
    rw [hu, allM_sound hl hlen hc]
  · cases hk
theorem lookup_run {o : Oper} {t k e : TypeId} {x i : Operand} {ok : Bool} {kv : Value} (hU : P.underlying t = some (.map k e)) (hk : KeyK P k kv) (hi : a.eval i = kv)
    (ho : o.op = .lookup t x i ok) {b : Nat} {ents : Array MapEntry} {clock : Nat} (hx : a.eval x = .map (some b)) (hb : w.heap[b]? = some (.map ents clock)) {q : Option (Nat × Value)} {v : Value} {g : Bool}
    (hf : (Instr.findKey k kv ents.toList).run P w = .ok q w) (hq : Found P w e v g q) :
    (execOp a.eval o).run P w = .ok (.value (if ok then .tuple #[v, .bool g] else v)) w := by
  obtain ⟨dst, op', type, pos, after, guard⟩ := o
  cases ho
  subst hi
  cases q with
  | none =>
    obtain ⟨h1, rfl⟩ := hq
    simp [execOp, Instr.lookup, hx, run_underlying hU, getMap hb, checkKey_run hk, hf, h1]
  | some q =>
    obtain ⟨rfl, rfl⟩ := hq
    simp [execOp, Instr.lookup, hx, run_underlying hU, getMap hb, checkKey_run hk, hf]
theorem mapOf_sound (hr : Rel N outs E s a w) {r : Ref} {es : List (Value × C)} (h : (s.get r).bind mapOf = some es) : ∃ (ents : Array MapEntry) (clock : Nat), w.heap[E.b r]? = some (.map ents clock) ∧
    ∀ kv y, findK kv es = some y → match y with | none => posE kv ents.toList 0 = some none | some x => ∃ i v, posE kv ents.toList 0 = some (some (i, v)) ∧ v.oneCell' = true ∧ Rc w E s.get x v := by
  obtain ⟨o, hg, hm⟩ := Option.bind_eq_some_iff.1 h
  unfold mapOf at hm
  split at hm
  · cases hm
    obtain ⟨ents, clock, hb, ⟨hl, _⟩, hc⟩ := hr.objs r _ hg
    exact ⟨ents, clock, hb, fun kv y hf => findK_sound (w := w) (E := E) (ob := s.get) (ents := ents.toList) (i0 := 0) hf (by simpa using hl) (fun j q x hj => by simpa using hc j q x hj)⟩
  · cases hm
    obtain ⟨ents, clock, hb, h1, h2⟩ := hr.objs r _ hg
    refine ⟨ents, clock, hb, fun kv y hf => ?_⟩
    cases y with
    | none => exact h2 kv hf
    | some x =>
      have hd : ∀ {l : List (Value × D)} {x : C}, findK kv (l.map fun p => (p.1, C.d p.2)) = some (some x) → ∃ d, x = .d d := by
        intro l
        induction l with
        | nil => intro x h; cases h
        | cons p l ih =>
          intro x h
          simp only [List.map_cons, findK] at h
          split at h
          · cases h; exact ⟨_, rfl⟩
          · exact ih h
          · cases h
      obtain ⟨d, rfl⟩ := hd hf
      exact h1 kv d hf
  · cases hm
theorem lookup_v (hti : TIok P ti) (hr : Rel N outs E s a w) {o : Oper} {t : TypeId} {x i : Operand} {ok : Bool} {v : V} (ho : o.op = .lookup t x i ok)
    (h : eff P ti s.ev s.get (.lookup t x i ok) = some (.val v)) : ValOk P E s a w o v := by
  have hzc := fun {et row} (h : ti et = some row) (hag : row.agg = false) => (hti et row h).one hag
  simp only [eff] at h
  split at h
  case h_2 => cases h
  rename_i kt et r kv hk hx hi
  split at h
  case h_2 => cases h
  rename_i es row hg hrow
  split at h
  case isTrue => cases h
  rename_i hko
  have hko : keyOk ti kt kv = true := by simpa using hko
  obtain ⟨hU, hkt⟩ := kd_of hti hk
  obtain ⟨ents, clock, hb, hF0⟩ := mapOf_sound hr hg
  have hdk := keyOk_sound hti hko
  obtain ⟨vk, hvk, hvk2⟩ := Option.bind_eq_some_iff.1 hi
  have hL := fun {q v g} => lookup_run (P := P) (w := w) (a := a) (ok := ok) hU hdk (keyV_sound hr hvk hvk2) ho (ev_mp hr hx).2 hb (q := q) (v := v) (g := g)
  have hF := fun (r : Option C) (h : findK kv es = some r) => hF0 kv r h
  split at h
  · rename_i y hf
    obtain ⟨i', v', h1, h2, h3⟩ := hF _ hf
    cases h
    have := hL (q := some (i', v')) (findKey_run hdk h1) ⟨rfl, rfl⟩
    cases ok with
    | true =>
      refine ⟨.tuple #[v', .bool true], this, [v', .bool true], rfl, rfl, fun j z hz => ?_⟩
      match j, hz with
      | 0, hz => cases hz; exact ⟨_, rfl, R1.of_c h3⟩
      | 1, hz => cases hz; exact ⟨_, rfl, ⟨0, rfl, rfl⟩, fun _ => rfl⟩
    | false => exact ⟨v', this, R1.of_c h3⟩
  · cases h
  · rename_i hf
    split at h
    case h_2 => cases h
    rename_i z hag hz
    cases h
    have hN := hF _ hf
    simp only [] at hN
    obtain ⟨inf, hi1, hi2, hi3, zv, hz1, hz2, hz3, hz4⟩ := (hti et row hrow).info
    obtain ⟨y, hy, hZ⟩ := hz4 0 z (by rw [hz]; rfl)
    have hone : zv.oneCell' = true → zv = y := by
      intro h1
      cases zv <;> first
        | (simp [Value.cells] at hy; exact hy)
        | cases h1
    have := hL (q := none) (v := zv) (findKey_run hdk hN) ⟨by simp [zeroValue, typeInfo, hi1, hz1], rfl⟩
    have hz1c : zv.oneCell' = true := hzc hrow hag inf hi1 zv hz1
    have e := hone hz1c
    subst e
    have hRc : Rc w E s.get (.d z) zv := by
      refine ⟨0, ?_⟩
      cases z <;> first | exact hZ | exact hZ.elim
    cases ok with
    | true =>
      refine ⟨.tuple #[zv, .bool false], this, [zv, .bool false], rfl, rfl, fun j q hq => ?_⟩
      match j, hq with
      | 0, hq => cases hq; exact ⟨_, rfl, R1.of_c hRc⟩
      | 1, hq => cases hq; exact ⟨_, rfl, ⟨0, rfl, rfl⟩, fun _ => rfl⟩
    | false => exact ⟨zv, this, R1.of_c hRc⟩
end
end Go.Vx
namespace Go.Vx
open Go
section
variable {P : Program} {ti : TI} {N : Nat} {outs : Nat → Prop} {E : Env} {s : S} {a : Act} {w : World} {ob : Ref → Option Ob}

/-- Cells side by side. -/
def Pt (w : World) (E : Env) (ob : Ref → Option Ob) (cs : List C) (us : List Value) : Prop :=
  us.length = cs.length ∧ ∀ (j : Nat) (x : C), cs[j]? = some x → ∃ y : Value, us[j]? = some y ∧ y.oneCell' = true ∧ Rc w E ob x y
theorem cells_one {u : Value} (h : u.oneCell' = true) : u.cells = #[u] := by
  cases u <;> first | rfl | cases h
theorem cells_sound {v : V} {cs : List C} {u : Value} (h : v.cells = some cs) (hu : Rv w E ob v u) : ∃ us, u.cells = us.toArray ∧ Pt w E ob cs us := by
  unfold V.cells at h
  split at h
  · cases h
  · rename_i x hne
    cases h
    obtain ⟨h1, h2⟩ := hu
    have h2 := h2 (fun e => hne e)
    refine ⟨[u], by rw [cells_one h2], rfl, fun j y hy => ?_⟩
    match j, hy with
    | 0, hy => cases hy; exact ⟨u, rfl, h2, h1⟩
  · cases h
    obtain ⟨us, rfl, h1, h2⟩ := hu
    exact ⟨us, rfl, h1, h2⟩
  · cases h
theorem foldSet (off : Nat) : ∀ (l : List Value) (j0 : Nat) (A : Array Value), off + j0 + l.length ≤ A.size →
    ((l.zipIdx j0).foldl (fun cs p => cs.setIfInBounds (off + p.2) p.1) A).size = A.size ∧
    ∀ k : Nat, ((l.zipIdx j0).foldl (fun cs p => cs.setIfInBounds (off + p.2) p.1) A)[k]? = if off + j0 ≤ k ∧ k < off + j0 + l.length then l[k - (off + j0)]? else A[k]?
  | [], j0, A, _ => ⟨rfl, fun k => by simp; intro h1 h2; omega⟩
  | v :: l, j0, A, h => by
    have h' : off + (j0 + 1) + l.length ≤ (A.setIfInBounds (off + j0) v).size := by simp at h ⊢; omega
    obtain ⟨h1, h2⟩ := foldSet off l (j0 + 1) (A.setIfInBounds (off + j0) v) h'
    refine ⟨by simp only [List.zipIdx_cons, List.foldl_cons]; rw [h1]; simp, fun k => ?_⟩
    simp only [List.zipIdx_cons, List.foldl_cons]
    rw [h2 k]
    simp only [List.length_cons] at h ⊢
    by_cases e : k = off + j0
    · subst e
      rw [if_neg (by omega), if_pos (by omega)]
      simp [Array.getElem?_setIfInBounds]
      omega
    · by_cases c : off + (j0 + 1) ≤ k ∧ k < off + (j0 + 1) + l.length
      · rw [if_pos c, if_pos (by omega)]
        rw [show k - (off + j0) = (k - (off + (j0 + 1))) + 1 from by omega, List.getElem?_cons_succ]
      · rw [if_neg c, if_neg (by omega), Array.getElem?_setIfInBounds_ne (by omega)]
theorem putAt_get {α : Type} (cs ns : List α) (off : Nat) (h : off + ns.length ≤ cs.length) (k : Nat) : (putAt cs off ns)[k]? = if off ≤ k ∧ k < off + ns.length then ns[k - off]? else cs[k]? := by
  unfold putAt
  have hl : (cs.take off).length = off := by simp; omega
  by_cases c : k < off
  · rw [if_neg (by omega), List.append_assoc, List.getElem?_append_left (by omega), List.getElem?_take, if_pos c]
  · by_cases d : k < off + ns.length
    · rw [if_pos (by omega), List.append_assoc, List.getElem?_append_right (by omega), hl, List.getElem?_append_left (by omega)]
    · rw [if_neg (by omega), List.getElem?_append_right (by simp; omega), List.getElem?_drop]
      congr 1
      simp
      omega
theorem putAt_length {α : Type} (cs ns : List α) (off : Nat) (h : off + ns.length ≤ cs.length) : (putAt cs off ns).length = cs.length := by
  unfold putAt; simp; omega
theorem pt_put {cs ns : List C} {us vs : List Value} {off : Nat} (h : Pt w E ob cs us) (k : Pt w E ob ns vs) (hle : off + ns.length ≤ cs.length) {us' : List Value} (hl : us'.length = us.length)
    (hg : ∀ j : Nat, us'[j]? = if off ≤ j ∧ j < off + vs.length then vs[j - off]? else us[j]?) : Pt w E ob (putAt cs off ns) us' := by
  refine ⟨by rw [putAt_length _ _ _ hle, hl, h.1], fun j x hx => ?_⟩
  rw [putAt_get _ _ _ hle] at hx
  rw [hg j, k.1]
  split at hx
  · rename_i c
    rw [if_pos c]
    exact k.2 _ _ hx
  · rename_i c
    rw [if_neg c]
    exact h.2 _ _ hx
theorem evParts_sound (hr : Rel N outs E s a w) : ∀ {l : List (Nat × Operand)} {ps : List (Nat × V)}, evParts s.ev l = some ps → List.length ps = l.length ∧ ∀ (j : Nat) (p : Nat × V), ps[j]? = some p → ∃ x, l[j]? = some (p.1, x) ∧ Rv w E s.get p.2 (a.eval x)
  | [], ps, h => by
    cases h
    exact ⟨rfl, fun j x hx => by simp at hx⟩
  | (i, x) :: l, ps, h => by
    simp only [evParts] at h
    split at h
    case h_2 => cases h
    rename_i v r hv hl
    cases h
    obtain ⟨h1, h2⟩ := evParts_sound hr hl
    refine ⟨by simp [h1], fun j y hy => ?_⟩
    cases j with
    | zero => cases hy; exact ⟨x, rfl, ev_sound hr hv⟩
    | succ j => simpa using h2 j y (by simpa using hy)
theorem fill_sound {fs place : Nat → Option (Nat × Nat)} (hp : ∀ i p, fs i = some p → place i = some p) :
    ∀ {ps : List (Nat × V)} {vs : List (Nat × Value)} {cs cs' : List C} {us : List Value}, fillC fs cs ps = some cs' → vs.length = ps.length →
    (∀ (j : Nat) (p : Nat × V), ps[j]? = some p → ∃ u, vs[j]? = some (p.1, u) ∧ Rv w E ob p.2 u) → Pt w E ob cs us →
    ∃ us', Instr.fill place us.toArray vs = some us'.toArray ∧ Pt w E ob cs' us'
  | [], vs, cs, cs', us, h, hl, _, hpt => by
    cases h
    have : vs = [] := List.eq_nil_of_length_eq_zero hl
    subst this
    exact ⟨us, rfl, hpt⟩
  | (i, v) :: ps, vs, cs, cs', us, h, hl, hv, hpt => by
    cases vs with
    | nil => simp at hl
    | cons q vs =>
      obtain ⟨u, hq, hu⟩ := hv 0 (i, v) rfl
      cases hq
      simp only [fillC] at h
      split at h
      case h_2 => cases h
      rename_i off size ns hfs hns
      split at h
      case isFalse => cases h
      rename_i hle
      obtain ⟨ws, hw, hwp⟩ := cells_sound hns hu
      have hfold := foldSet off ws 0 us.toArray (by simp [hwp.1, hpt.1]; omega)
      simp only [Nat.add_zero] at hfold
      obtain ⟨h1, h2⟩ := hfold
      obtain ⟨us', hF, hP⟩ := fill_sound (vs := vs) hp (us := ((ws.zipIdx).foldl (fun cs p => cs.setIfInBounds (off + p.2) p.1) us.toArray).toList) h (by simpa using hl) (fun j p hj => by simpa using hv (j + 1) p (by simpa using hj))
        (pt_put hpt hwp (by omega) (by simpa using h1) (fun j => by simpa using h2 j))
      refine ⟨us', ?_, hP⟩
      unfold Instr.fill
      simp only [hp i _ hfs, hw]
      rw [if_neg (by simp [hwp.1, hpt.1, hle.1]; omega)]
      rw [← hF]
      simp
theorem zero_pt (hti : TIok P ti) {t : TypeId} {r : TRow} (h : ti t = some r) : ∃ i z, P.info? t = some i ∧ i.zero = some z ∧ Pt w E ob (r.zero.map C.d) z.cells.toList := by
  obtain ⟨i, h1, h2, h3, z, h4, h5, h6, h7⟩ := (hti t r h).info
  refine ⟨i, z, h1, h4, by simp [h5, h6], fun j x hx => ?_⟩
  rw [List.getElem?_map] at hx
  obtain ⟨x', hx', rfl⟩ := Option.map_eq_some_iff.1 hx
  obtain ⟨y, hy, hz⟩ := h7 j x' hx'
  refine ⟨y, by simpa using hy, ?_, 0, ?_⟩
  · cases x' <;> first | exact hz.1 ▸ hz.2 | (rw [show y = _ from hz]; rfl) | exact hz.elim
  · cases x' <;> first | exact hz | exact hz.elim
theorem places_of (hti : TIok P ti) {fs : List (Nat × TypeId)} {fa : Array Field} (hs : fa.size = fs.length)
    (hf : ∀ (j : Nat) (p : Nat × TypeId), fs[j]? = some p → ∃ f : Field, fa[j]? = some f ∧ f.offset = p.1 ∧ f.type = p.2 ∧ ∃ i, P.info? f.type = some i ∧ i.size ≠ 0) :
    ∃ places : List (Nat × Nat), fa.toList.mapM (fun f => (P.info? f.type).map fun i => (f.offset, i.size)) = some places ∧
    ∀ i p, fldAt ti fs i = some p → places.toArray[i]? = some p := by
  have key : ∀ (l : List Field) (fs : List (Nat × TypeId)), l.length = fs.length → (∀ (j : Nat) (p : Nat × TypeId), fs[j]? = some p → ∃ f : Field, l[j]? = some f ∧ f.offset = p.1 ∧ f.type = p.2 ∧ ∃ i, P.info? f.type = some i ∧ i.size ≠ 0) →
      ∃ places : List (Nat × Nat), l.mapM (fun f => (P.info? f.type).map fun i => (f.offset, i.size)) = some places ∧
      ∀ i p, fldAt ti fs i = some p → places[i]? = some p := by
    intro l
    induction l with
    | nil =>
      intro fs hl _
      have : fs = [] := List.eq_nil_of_length_eq_zero hl.symm
      subst this
      exact ⟨[], rfl, fun i p h => by simp [fldAt] at h⟩
    | cons f l ih =>
      intro fs hl hf
      cases fs with
      | nil => simp at hl
      | cons q fs =>
        obtain ⟨f', hf', h1, h2, i, hi, hz⟩ := hf 0 q rfl
        cases hf'
        obtain ⟨pl, hpl, hpg⟩ := ih fs (by simpa using hl) (fun j p hj => by simpa using hf (j + 1) p (by simpa using hj))
        refine ⟨(f.offset, i.size) :: pl, by simp [hi, hpl], fun j p hp => ?_⟩
        cases j with
        | zero =>
          simp only [fldAt, List.getElem?_cons_zero] at hp ⊢
          obtain ⟨q1, q2⟩ := q
          obtain ⟨r, hr, he⟩ := Option.map_eq_some_iff.1 hp
          subst he
          obtain ⟨i', hi', hs', _⟩ := info_of hti hr
          simp only [] at h1 h2
          subst h2
          rw [hi] at hi'
          cases hi'
          rw [h1, hs']
        | succ j => simpa using hpg j p (by simpa [fldAt] using hp)
  obtain ⟨pl, h1, h2⟩ := key fa.toList fs (by simpa using hs) (fun j p hj => by simpa using hf j p hj)
  exact ⟨pl, h1, fun i p h => by simpa using h2 i p h⟩
theorem build_v (hti : TIok P ti) (hr : Rel N outs E s a w) {o : Oper} {t : TypeId} {parts : Array (Nat × Operand)} {v : V} (ho : o.op = .build t parts)
    (h : eff P ti s.ev s.get (.build t parts) = some (.val v)) : ValOk P E s a w o v := by
  simp only [eff] at h
  split at h
  case h_2 => cases h
  rename_i r ps hrow hps
  split at h
  case h_2 => cases h
  rename_i fs hk
  obtain ⟨cs, hcs, he⟩ := Option.map_eq_some_iff.1 h
  cases he
  obtain ⟨fa, hU, hs, hf⟩ := kd_of hti (show kdOf ti t = some (.struct fs) from by unfold kdOf; rw [hrow]; simp [hk])
  obtain ⟨pl, hpl, hpg⟩ := places_of hti hs hf
  obtain ⟨i, z, hi, hz, hpt⟩ := zero_pt (w := w) (E := E) (ob := s.get) hti hrow
  obtain ⟨h1, h2⟩ := evParts_sound hr hps
  obtain ⟨us', hF, hP⟩ := fill_sound hpg (vs := (parts.map fun (i, x) => (i, a.eval x)).toList) hcs (by simp [h1]) (fun j p hj => by
    obtain ⟨x, hx, hv⟩ := h2 j p hj
    exact ⟨a.eval x, by simp only [Array.toList_map, List.getElem?_map, hx]; rfl, hv⟩) hpt
  have hb : P.built t (parts.map fun (i, x) => (i, a.eval x)).toList = some us'.toArray := by
    unfold Program.built
    simp only [hi, hU, hz, hpl]
    rw [← hF]
  refine ⟨.agg us'.toArray, ?_, us', rfl, hP.1, hP.2⟩
  have := run_build w t _ _ hb
  obtain ⟨dst, op', type, pos, after, guard⟩ := o
  cases ho
  simp only [execOp]
  rw [Sem.run_bind, this]
  rfl
end
end Go.Vx
namespace Go.Vx
open Go Go.RowKit
section
variable {P : Program} {ti : TI} {N : Nat} {outs : Nat → Prop} {E E' : Env} {s : S} {a : Act} {w w' : World} {ob ob' : Ref → Option Ob}

/-- What lies below N, and is none of the caller's objects, stays. -/
structure Fr (N : Nat) (outs : Nat → Prop) (w w' : World) : Prop where
  os : w'.os = w.os
  tape : w'.tape = w.tape
  output : w'.output = w.output
  size : w.heap.size ≤ w'.heap.size
  block : ∀ k, k < N → ¬ outs k → w'.heap[k]? = w.heap[k]?
theorem Fr.refl (w : World) : Fr N outs w w := ⟨rfl, rfl, rfl, Nat.le_refl _, fun _ _ _ => rfl⟩
theorem Fr.trans {w2 : World} (h : Fr N outs w w') (k : Fr N outs w' w2) : Fr N outs w w2 :=
  ⟨k.os.trans h.os, k.tape.trans h.tape, k.output.trans h.output, Nat.le_trans h.size k.size, fun i hi ho => (k.block i hi ho).trans (h.block i hi ho)⟩

/-- What is read for good is what was, or new. -/
def Sn (N : Nat) (outs : Nat → Prop) (E E' : Env) : Prop := ∀ b x, E'.st b x → E.st b x ∨ N ≤ b ∨ outs b
theorem Sn.refl (E : Env) : Sn N outs E E := fun _ _ h => .inl h
theorem Sn.trans {E2 : Env} (h : Sn N outs E E') (k : Sn N outs E' E2) : Sn N outs E E2 := fun b x hx => by
  rcases k b x hx with h1 | h1
  · exact h b x h1
  · exact .inr h1
def upd {β : Type} (f : Ref → β) (r : Ref) (x : β) : Ref → β := fun q => if q = r then x else f q
@[simp] theorem upd_self {β : Type} (f : Ref → β) (r : Ref) (x : β) : upd f r x r = x := by simp [upd]
theorem upd_ne {β : Type} {f : Ref → β} {r q : Ref} {x : β} (h : q ≠ r) : upd f r x q = f q := by simp [upd, h]
def fillL {α : Type} (l : List α) (base : Nat) (new : List α) : List α := l.take base ++ new ++ l.drop (base + new.length)
theorem fillL_get {α : Type} {l new : List α} {base : Nat} (h : base ≤ l.length) (i : Nat) : (fillL l base new)[i]? = if base ≤ i ∧ i < base + new.length then new[i - base]? else l[i]? := by
  unfold fillL
  have h1 : (l.take base).length = base := by rw [List.length_take]; omega
  rcases Nat.lt_or_ge i base with hi | hi
  · rw [if_neg (by omega), List.append_assoc, List.getElem?_append_left (by omega), List.getElem?_take, if_pos hi]
  · rcases Nat.lt_or_ge i (base + new.length) with hj | hj
    · rw [if_pos ⟨hi, hj⟩, List.append_assoc, List.getElem?_append_right (by omega), List.getElem?_append_left (by omega), h1]
    · rw [if_neg (by omega), List.getElem?_append_right (by simp; omega), List.getElem?_drop]
      congr 1
      simp; omega
/-- A place that is not taken. -/
def Free (s : S) (i : Nat) : Prop := i ≤ s.l.length ∧ (s.get (.loc i) = none ∨ s.get (.loc i) = some .hole)
theorem free_end (s : S) : Free s s.l.length := ⟨Nat.le_refl _, .inl (by simp [S.get])⟩
def S.pushAt (s : S) (i : Nat) (o : Ob) : S := { s with l := fillL s.l i [o] }
theorem get_push_new {i0 : Nat} (hi : Free s i0) (o : Ob) : (s.pushAt i0 o).get (.loc i0) = some o := by
  show (fillL s.l i0 [o])[i0]? = _
  rw [fillL_get hi.1, if_pos ⟨Nat.le_refl _, by simp⟩]
  simp
theorem get_push_ne {i0 : Nat} (hi : Free s i0) {o : Ob} {r : Ref} (h : r ≠ .loc i0) : (s.pushAt i0 o).get r = s.get r := by
  cases r with
  | out i => rfl
  | loc i =>
    show (fillL s.l i0 [o])[i]? = _
    rw [fillL_get hi.1, if_neg (fun hk => h (by congr 1; simp at hk; omega))]
    rfl
theorem new_of_live {i0 : Nat} (hi : Free s i0) {r : Ref} (h : live s.get r) : r ≠ .loc i0 := by
  rintro rfl
  obtain ⟨o, ho, hne⟩ := h
  rcases hi.2 with h' | h' <;> rw [h'] at ho <;> cases ho
  exact hne rfl
theorem Ro_keep {r : Ref} {o : Ob} (h : Le w E ob w' E' ob') (hb : E'.b r = E.b r) (hv : E'.v r = E.v r) (hh : ∀ k, blk E r o = some k → w'.heap[k]? = w.heap[k]?)
    (hs : ∀ k, blk E r o = some k → ∀ x, E'.st k x → E.st k x) (hr : Ro w E ob r o) : Ro w' E' ob' r o := by
  cases o with
  | box e cs =>
    obtain ⟨us, h1, h2, h3, h4⟩ := hr
    refine ⟨us, by rw [hb, hh _ rfl]; exact h1, h2, fun j x hx => ?_, fun x hx => h4 x (hs _ rfl x (by rwa [hb] at hx))⟩
    obtain ⟨y, hy, hy1, hy2⟩ := h3 j x hx
    exact ⟨y, hy, hy1, hy2.le h⟩
  | tok e sz n =>
    obtain ⟨g, cap, cur, h1, h2, h3, h4, h5, h6⟩ := hr
    have hk : blk E r (.tok e sz n) = some g := by simp [blk, h1, Value.ownBlock]
    exact ⟨g, cap, cur, by rw [hv]; exact h1, by rw [hh _ hk]; exact h2, h3, h4, h5, fun x hx => h6 x (hs _ hk x hx)⟩
  | map es =>
    obtain ⟨ents, clock, h1, h2, h3⟩ := hr
    refine ⟨ents, clock, by rw [hb, hh _ rfl]; exact h1, h2, fun j k x hx => ?_⟩
    obtain ⟨en, he, h4, h5, h6⟩ := h3 j k x hx
    exact ⟨en, he, h4, h5, h6.le h⟩
  | pmap es =>
    obtain ⟨ents, clock, h1, h2, h3⟩ := hr
    refine ⟨ents, clock, by rw [hb, hh _ rfl]; exact h1, fun kv d hf => ?_, h3⟩
    obtain ⟨i, v, k1, k2, k3⟩ := h2 kv d hf
    exact ⟨i, v, k1, k2, k3.le h⟩
  | iter t n => exact ⟨by rw [hb, hh _ rfl]; exact hr.1, fun x hx => hr.2 x (hs _ rfl x (by rwa [hb] at hx))⟩
  | hole => trivial
  | gone => trivial
theorem blk_lt {r : Ref} {o : Ob} {k : Nat} (h : Ro w E ob r o) (hk : blk E r o = some k) : k < w.heap.size := by
  cases o with
  | box e cs => obtain ⟨us, h1, _⟩ := h; cases hk; exact (Array.getElem?_eq_some_iff.1 h1).1
  | tok e sz n =>
    obtain ⟨g, cap, cur, h1, h2, _⟩ := h
    have : g = k := by simpa [blk, h1, Value.ownBlock] using hk
    subst this
    exact (Array.getElem?_eq_some_iff.1 h2).1
  | map es => obtain ⟨ents, clock, h1, _⟩ := h; cases hk; exact (Array.getElem?_eq_some_iff.1 h1).1
  | pmap es => obtain ⟨ents, clock, h1, _⟩ := h; cases hk; exact (Array.getElem?_eq_some_iff.1 h1).1
  | iter t n => cases hk; exact (Array.getElem?_eq_some_iff.1 h.1).1
  | hole => cases hk
  | gone => cases hk
theorem cell_lt {w : World} {b o : Nat} (h : (w.cell? ⟨b, o, none⟩).isSome = true) : b < w.heap.size := by
  rcases Nat.lt_or_ge b w.heap.size with hl | hl
  · exact hl
  · simp [World.cell?, Array.getElem?_eq_none hl] at h
/-- The state with one object more. -/
theorem rel_push (hr : Rel N outs E s a w) {i0 : Nat} (hi : Free s i0) {o : Ob} {ob0 : Obj} {bn : Nat} {vn : Value} {st' : Nat → Nat → Prop} (hdraw : w'.heap = (w.alloc ob0).heap)
    (hst : ∀ b x, st' b x → E.st b x ∨ b = w.heap.size) (hst' : ∀ b x, E.st b x → st' b x) (hhas : ∀ x, st' w.heap.size x → (w'.cell? ⟨w.heap.size, x, none⟩).isSome = true)
    (hbk : ∀ k, blk ⟨upd E.b (Ref.loc i0) bn, upd E.v (Ref.loc i0) vn, st'⟩ (Ref.loc i0) o = some k → k = w.heap.size)
    (hRo : Le w E s.get w' ⟨upd E.b (Ref.loc i0) bn, upd E.v (Ref.loc i0) vn, st'⟩ (s.pushAt i0 o).get → Ro w' ⟨upd E.b (Ref.loc i0) bn, upd E.v (Ref.loc i0) vn, st'⟩ (s.pushAt i0 o).get (Ref.loc i0) o) :
    Rel N outs ⟨upd E.b (Ref.loc i0) bn, upd E.v (Ref.loc i0) vn, st'⟩ (s.pushAt i0 o) a w' ∧ Le w E s.get w' ⟨upd E.b (Ref.loc i0) bn, upd E.v (Ref.loc i0) vn, st'⟩ (s.pushAt i0 o).get := by
  have hold : ∀ k, k < w.heap.size → w'.heap[k]? = w.heap[k]? := fun k hk => by rw [hdraw]; exact Below.heap_alloc w ob0 k hk
  have hcell : ∀ b x, b < w.heap.size → w'.cell? ⟨b, x, none⟩ = w.cell? ⟨b, x, none⟩ := fun b x hb => World.cell?_of_block (hold b hb)
  have hle : Le w E s.get w' ⟨upd E.b (Ref.loc i0) bn, upd E.v (Ref.loc i0) vn, st'⟩ (s.pushAt i0 o).get :=
    ⟨hst', fun b x hs => hcell b x (cell_lt (hr.has b x hs)), fun r hl => by obtain ⟨q, hq, hne⟩ := hl; exact ⟨q, by rw [get_push_ne hi (new_of_live hi ⟨q, hq, hne⟩)]; exact hq, hne⟩,
      fun r hl => upd_ne (new_of_live hi hl), fun r e sz n hl he => ⟨n, by rw [get_push_ne hi (new_of_live hi hl)] at he; exact he, Nat.le_refl _, fun _ => upd_ne (new_of_live hi hl)⟩⟩
  have hcase : ∀ r q, (s.pushAt i0 o).get r = some q → (r = (Ref.loc i0) ∧ q = o) ∨ (r ≠ (Ref.loc i0) ∧ s.get r = some q) := by
    intro r q hq
    by_cases e : r = (Ref.loc i0)
    · subst e
      rw [get_push_new hi] at hq
      cases hq
      exact .inl ⟨rfl, rfl⟩
    · exact .inr ⟨e, by rwa [get_push_ne hi e] at hq⟩
  have hblk : ∀ r q, r ≠ (Ref.loc i0) → blk ⟨upd E.b (Ref.loc i0) bn, upd E.v (Ref.loc i0) vn, st'⟩ r q = blk E r q := by
    intro r q hne
    cases q <;> simp [blk, upd_ne hne]
  refine ⟨⟨fun i v hv => ?_, hr.size, fun r q hq => ?_, fun r r' q q' k hq hq' hk hk' => ?_, fun r q k hq hk => ?_, fun b x hs => ?_, hr.defers.le hle, by rw [hdraw]; show N ≤ (w.heap.push ob0).size; rw [Array.size_push]; have := hr.low; omega⟩, hle⟩
  · obtain ⟨u, hu, hR⟩ := hr.tmps i v hv
    exact ⟨u, hu, hR.le hle⟩
  · rcases hcase r q hq with ⟨rfl, rfl⟩ | ⟨hne, hq⟩
    · exact hRo hle
    · have h0 := hr.objs r q hq
      refine Ro_keep hle (upd_ne hne) (upd_ne hne) (fun k hk => hold k (blk_lt h0 hk)) (fun k hk x hx => ?_) h0
      rcases hst k x hx with h | h
      · exact h
      · have := blk_lt h0 hk
        omega
  · rcases hcase r q hq with ⟨e1, e2⟩ | ⟨hne, hq2⟩ <;> rcases hcase r' q' hq' with ⟨e3, e4⟩ | ⟨hne', hq2'⟩
    · rw [e1, e3]
    · rw [hblk r' q' hne'] at hk'
      have := blk_lt (hr.objs _ _ hq2') hk'
      subst e1 e2
      have := hbk _ hk
      omega
    · rw [hblk r q hne] at hk
      have := blk_lt (hr.objs _ _ hq2) hk
      subst e3 e4
      have := hbk _ hk'
      omega
    · rw [hblk r q hne] at hk
      rw [hblk r' q' hne'] at hk'
      exact hr.apart r r' q q' k hq2 hq2' hk hk'
  · rcases hcase r q hq with ⟨rfl, rfl⟩ | ⟨hne, hq⟩
    · have := hbk _ hk
      have := hr.low
      exact .inl (by omega)
    · rw [hblk r q hne] at hk
      exact hr.mine r q k hq hk
  · rcases hst b x hs with h | rfl
    · rw [hcell b x (cell_lt (hr.has b x h))]
      exact hr.has b x h
    · exact hhas x hs
theorem fr_alloc (hl : N ≤ w.heap.size) (o : Obj) : Fr N outs w (w.alloc o) :=
  ⟨rfl, rfl, rfl, by simp, fun k hk _ => Below.heap_alloc w o k (by omega)⟩
theorem fr_drew (h : Fr N outs w w') : Fr N outs w w'.drew := ⟨h.os, h.tape, h.output, h.size, h.block⟩

/-- What an operation that makes or turns memory comes to. -/
def EffOk (P : Program) (N : Nat) (outs : Nat → Prop) (E : Env) (s : S) (a : Act) (w : World) (o : Oper) (s' : S) (v : V) : Prop :=
  ∃ u w' E', ((execOp a.eval o).run P w = .ok (.value u) w' ∨ ((execOp a.eval o).run P w = .ok .skip w' ∧ u = undef)) ∧ Rel N outs E' s' a w' ∧ Le w E s.get w' E' s'.get ∧ Rv w' E' s'.get v u ∧ Fr N outs w w' ∧ Sn N outs E E'
theorem heap_new (w : World) (o : Obj) : (w.alloc o).heap[w.heap.size]? = some o := by
  show (w.heap.push o)[w.heap.size]? = some o
  simp
theorem new_box (hr : Rel N outs E s a w) {i0 : Nat} (hi : Free s i0) {o : Oper} {t : TypeId} {cs : List C} {us : List Value} (hp : Pt w E s.get cs us)
    (hrun : (execOp a.eval o).run P w = .ok (.value (.pointer (some ⟨w.heap.size, 0, none⟩))) (w.alloc (.cells us.toArray t))) :
    EffOk P N outs E s a w o (s.pushAt i0 (.box t cs)) (.c (.ptr (Ref.loc i0) 0)) := by
  obtain ⟨h1, h2⟩ := rel_push hr hi (o := .box t cs) (ob0 := .cells us.toArray t) (w' := w.alloc (.cells us.toArray t)) (bn := w.heap.size) (vn := undef) (st' := E.st) rfl (fun b x h => .inl h) (fun b x h => h)
    (fun x h => absurd (cell_lt (hr.has _ x h)) (by omega)) (fun k hk => by simpa [blk] using hk.symm) (fun hle => ⟨us.toArray, by show (w.alloc _).heap[upd E.b (Ref.loc i0) w.heap.size (Ref.loc i0)]? = _; rw [upd_self]; exact heap_new _ _, by simp [hp.1], fun j x hx => by
      obtain ⟨y, hy, hy1, hy2⟩ := hp.2 j x hx
      exact ⟨y, by simpa using hy, hy1, hy2.le hle⟩, fun x hx => by
      simp at hx
      exact absurd (cell_lt (hr.has _ x hx)) (by omega)⟩)
  exact ⟨_, _, _, .inl hrun, h1, h2, ⟨⟨⟨_, get_push_new hi _, by simp⟩, by simp⟩, fun _ => rfl⟩, fr_alloc hr.low _, fun _ _ h => .inl h⟩
theorem alloc_e (hti : TIok P ti) (hr : Rel N outs E s a w) {i0 : Nat} (hi0 : Free s i0) {o : Oper} {t : TypeId} {r : TRow} (ho : o.op = .alloc t) (h : ti t = some r) :
    EffOk P N outs E s a w o (s.pushAt i0 (.box t (r.zero.map .d))) (.c (.ptr (Ref.loc i0) 0)) := by
  obtain ⟨i, z, hi, hz, hp⟩ := zero_pt (w := w) (E := E) (ob := s.get) hti h
  refine new_box hr hi0 hp ?_
  obtain ⟨dst, op', type, pos, after, guard⟩ := o
  cases ho
  simp [execOp, Instr.alloc, zeroValue, typeInfo, hi, hz, newVar, newRow]
theorem box_e (hr : Rel N outs E s a w) {i0 : Nat} (hi : Free s i0) {o : Oper} {t : TypeId} {x : Operand} {v : V} {cs : List C} (ho : o.op = .box t x) (hx : s.ev x = some v) (hc : v.cells = some cs) :
    EffOk P N outs E s a w o (s.pushAt i0 (.box t cs)) (.c (.ptr (Ref.loc i0) 0)) := by
  obtain ⟨us, hu, hp⟩ := cells_sound hc (ev_sound hr hx)
  refine new_box hr hi hp ?_
  obtain ⟨dst, op', type, pos, after, guard⟩ := o
  cases ho
  simp [execOp, Instr.box, newVar, newRow, hu]
theorem makeMap_e (hr : Rel N outs E s a w) {i0 : Nat} (hi : Free s i0) {o : Oper} {t : TypeId} (ho : o.op = .makeMap t none) : EffOk P N outs E s a w o (s.pushAt i0 (.map [])) (.c (.mp (Ref.loc i0))) := by
  obtain ⟨h1, h2⟩ := rel_push hr hi (o := .map []) (ob0 := .map #[] 0) (w' := w.alloc (.map #[] 0)) (bn := w.heap.size) (vn := undef) (st' := E.st) rfl (fun b x h => .inl h) (fun b x h => h)
    (fun x h => absurd (cell_lt (hr.has _ x h)) (by omega)) (fun k hk => by simpa [blk] using hk.symm) (fun hle => ⟨#[], 0, by show (w.alloc _).heap[upd E.b (Ref.loc i0) w.heap.size (Ref.loc i0)]? = _; rw [upd_self]; exact heap_new _ _, ⟨rfl, rfl, fun j en hj => by simp at hj⟩, fun j k x hx => by simp at hx⟩)
  refine ⟨_, _, _, .inl ?_, h1, h2, ⟨⟨⟨_, get_push_new hi _, by simp⟩, by simp; rfl⟩, fun _ => rfl⟩, fr_alloc hr.low _, fun _ _ h => .inl h⟩
  obtain ⟨dst, op', type, pos, after, guard⟩ := o
  cases ho
  simp [execOp, Instr.makeMap]
end
end Go.Vx
namespace Go.Vx
open Go Go.RowKit
section
variable {P : Program} {ti : TI} {N : Nat} {outs : Nat → Prop} {E E' : Env} {s : S} {a : Act} {w w' : World} {ob ob' : Ref → Option Ob}

theorem get_upd {s : S} {r : Ref} {o o' : Ob} (h : s.get r = some o) (q : Ref) : (s.upd r o').get q = if q = r then some o' else s.get q := by
  cases r with
  | loc i =>
    have hi : i < s.l.length := (List.getElem?_eq_some_iff.1 (show s.l[i]? = some o from h)).1
    cases q with
    | loc j =>
      simp only [S.upd, S.get, Ref.loc.injEq]
      rw [List.getElem?_set]
      by_cases e : i = j
      · subst e; simp [hi]
      · simp [e, Ne.symm e]
    | out j => simp [S.upd, S.get]
  | out i =>
    have hi : i < s.o.length := (List.getElem?_eq_some_iff.1 (show s.o[i]? = some o from h)).1
    cases q with
    | out j =>
      simp only [S.upd, S.get, Ref.out.injEq]
      rw [List.getElem?_set]
      by_cases e : i = j
      · subst e; simp [hi]
      · simp [e, Ne.symm e]
    | loc j => simp [S.upd, S.get]
theorem upd_d (s : S) (r : Ref) (o : Ob) : (s.upd r o).d = s.d := by cases r <;> rfl
theorem upd_t (s : S) (r : Ref) (o : Ob) : (s.upd r o).t = s.t := by cases r <;> rfl
/-- The state with one object turned. -/
theorem rel_upd (hr : Rel N outs E s a w) {r : Ref} {o o' : Ob} (hg : s.get r = some o) (hlo : o ≠ .hole) (hlo' : o' ≠ .hole) {vn : Value} {st' : Nat → Nat → Prop}
    (hsize : w.heap.size ≤ w'.heap.size) (hold : ∀ k, k < w.heap.size → blk E r o ≠ some k → w'.heap[k]? = w.heap[k]?)
    (hcell : ∀ b x, E.st b x → w'.cell? ⟨b, x, none⟩ = w.cell? ⟨b, x, none⟩) (hst' : ∀ b x, E.st b x → st' b x)
    (hst : ∀ b x, st' b x → E.st b x ∨ (blk ⟨E.b, upd E.v r vn, st'⟩ r o' = some b ∧ (w'.cell? ⟨b, x, none⟩).isSome = true))
    (hbk : ∀ k, blk ⟨E.b, upd E.v r vn, st'⟩ r o' = some k → blk E r o = some k ∨ w.heap.size ≤ k)
    (hkind : ∀ e sz n', o' = .tok e sz n' → ∃ n, o = .tok e sz n ∧ n ≤ n' ∧ (n = n' → vn = E.v r))
    (hRo : Le w E s.get w' ⟨E.b, upd E.v r vn, st'⟩ (s.upd r o').get → Ro w' ⟨E.b, upd E.v r vn, st'⟩ (s.upd r o').get r o') :
    Rel N outs ⟨E.b, upd E.v r vn, st'⟩ (s.upd r o') a w' ∧ Le w E s.get w' ⟨E.b, upd E.v r vn, st'⟩ (s.upd r o').get := by
  have hG := fun q => get_upd (o' := o') hg q
  have hle : Le w E s.get w' ⟨E.b, upd E.v r vn, st'⟩ (s.upd r o').get := by
    refine ⟨hst', hcell, fun q hl => ?_, fun q hl => rfl, fun q e sz n hl he => ?_⟩
    · obtain ⟨x, hx, hne⟩ := hl
      by_cases e : q = r
      · exact ⟨o', by rw [hG, if_pos e], hlo'⟩
      · exact ⟨x, by rw [hG, if_neg e]; exact hx, hne⟩
    · rw [hG] at he
      by_cases e1 : q = r
      · rw [if_pos e1] at he
        injection he with he
        obtain ⟨n0, h1, h2, h3⟩ := hkind _ _ _ he
        subst e1
        exact ⟨n0, by rw [hg, h1], h2, fun hn => by show upd E.v q vn q = _; rw [upd_self]; exact h3 hn⟩
      · rw [if_neg e1] at he
        exact ⟨n, he, Nat.le_refl _, fun _ => upd_ne e1⟩
  have hblk : ∀ q x, q ≠ r → blk ⟨E.b, upd E.v r vn, st'⟩ q x = blk E q x := by
    intro q x hne
    cases x <;> simp [blk, upd_ne hne]
  have h0 := hr.objs r o hg
  have hfar : ∀ q x k, q ≠ r → s.get q = some x → blk E q x = some k → blk E r o ≠ some k := fun q x k hne hq hk hk' => hne (hr.apart q r x o k hq hg hk hk')
  have hbk2 : ∀ q x k, q ≠ r → s.get q = some x → blk E q x = some k → blk ⟨E.b, upd E.v r vn, st'⟩ r o' ≠ some k := by
    intro q x k hne hq hk hk'
    rcases hbk k hk' with h | h
    · exact hfar q x k hne hq hk h
    · have := blk_lt (hr.objs q x hq) hk
      omega
  refine ⟨⟨fun i v hv => ?_, by rw [upd_t]; exact hr.size, fun q x hq => ?_, fun q q' x x' k hq hq' hk hk' => ?_, fun q x k hq hk => ?_, fun b x hs => ?_, by rw [upd_d]; exact hr.defers.le hle, Nat.le_trans hr.low hsize⟩, hle⟩
  · rw [upd_t] at hv
    obtain ⟨u, hu, hR⟩ := hr.tmps i v hv
    exact ⟨u, hu, hR.le hle⟩
  · rw [hG] at hq
    by_cases e : q = r
    · rw [if_pos e] at hq
      injection hq with hq
      subst hq e
      exact hRo hle
    · rw [if_neg e] at hq
      have h1 := hr.objs q x hq
      refine Ro_keep hle rfl (upd_ne e) (fun k hk => hold k (blk_lt h1 hk) (hfar q x k e hq hk)) (fun k hk y hy => ?_) h1
      rcases hst k y hy with h | ⟨h, _⟩
      · exact h
      · exact absurd h (hbk2 q x k e hq hk)
  · rw [hG] at hq hq'
    by_cases e : q = r <;> by_cases e' : q' = r
    · rw [e, e']
    · rw [if_pos e] at hq
      rw [if_neg e'] at hq'
      injection hq with hq
      rw [hblk q' x' e'] at hk'
      subst hq e
      exact absurd hk (hbk2 q' x' k e' hq' hk')
    · rw [if_neg e] at hq
      rw [if_pos e'] at hq'
      injection hq' with hq'
      rw [hblk q x e] at hk
      subst hq' e'
      exact absurd hk' (hbk2 q x k e hq hk)
    · rw [if_neg e] at hq
      rw [if_neg e'] at hq'
      rw [hblk q x e] at hk
      rw [hblk q' x' e'] at hk'
      exact hr.apart q q' x x' k hq hq' hk hk'
  · rw [hG] at hq
    by_cases e : q = r
    · rw [if_pos e] at hq
      injection hq with hq
      subst hq e
      rcases hbk k hk with h | h
      · exact hr.mine _ _ k hg h
      · have := hr.low
        exact .inl (by omega)
    · rw [if_neg e] at hq
      rw [hblk q x e] at hk
      exact hr.mine q x k hq hk
  · rcases hst b x hs with h | ⟨_, h⟩
    · rw [hcell b x h]
      exact hr.has b x h
    · exact h
theorem blk_mine (hr : Rel N outs E s a w) {r : Ref} {o : Ob} {g : Nat} (hg : s.get r = some o) (hb : blk E r o = some g) {k : Nat} (hk : k < N) (ho : ¬ outs k) : k ≠ g := by
  rintro rfl
  rcases hr.mine r o k hg hb with h | h
  · omega
  · exact ho h
theorem store_run (hti : TIok P ti) {o : Oper} {t : TypeId} {x y : Operand} {row : TRow} (ho : o.op = .store t x y) (ht : ti t = some row) {g off : Nat} (hx : a.eval x = .pointer (some ⟨g, off, none⟩))
    {cur : Array Value} {e : TypeId} (hg : w.heap[g]? = some (.cells cur e (0, 0))) {vs : List Value} (hy : (a.eval y).cells = vs.toArray) (hl : vs.length = row.size) (hfit : off + vs.length ≤ cur.size) (h1 : ∀ v ∈ vs, v.oneCell' = true) :
    (execOp a.eval o).run P w = .ok .skip (w.setRow g (cur.toList.take off ++ vs ++ cur.toList.drop (off + vs.length)).toArray) := by
  have hst := run_storeCells_at P g off e vs 0 cur w hg (by simpa using hfit) h1
  simp only [Nat.add_zero] at hst
  obtain ⟨dst, op', type, pos, after, guard⟩ := o
  cases ho
  simp only [execOp, hx, Instr.storeAt, Instr.sureAddr]
  simp [storeVar, sizeOf_of hti ht, hy, hl, hst]
theorem store_e (hti : TIok P ti) (hr : Rel N outs E s a w) {o : Oper} {t : TypeId} {x y : Operand} {row : TRow} {r : Ref} {off : Nat} {v : V} {e : TypeId} {cs ns : List C} (ho : o.op = .store t x y)
    (hx : s.ev x = some (.c (.ptr r off))) (hy : s.ev y = some v) (ht : ti t = some row) (hg : s.get r = some (.box e cs)) (hv : v.cells = some ns) (hl : ns.length = row.size ∧ off + ns.length ≤ cs.length) :
    EffOk P N outs E s a w o (s.upd r (.box e (putAt cs off ns))) (.c .dead) := by
  obtain ⟨us, hb, hs, hc, hns⟩ := hr.objs r _ hg
  obtain ⟨vs, hvs, hp⟩ := cells_sound hv (ev_sound hr hy)
  have hlt : E.b r < w.heap.size := (Array.getElem?_eq_some_iff.1 hb).1
  have hrun := store_run (w := w) hti ho ht (ev_ptr hr hx).2 hb hvs (by rw [hp.1, hl.1]) (by rw [hp.1]; omega) (fun u hu => by
    obtain ⟨j, hj⟩ := List.mem_iff_getElem?.1 hu
    have hjl : j < ns.length := by rw [← hp.1]; exact (List.getElem?_eq_some_iff.1 hj).1
    obtain ⟨y', hy', h1, _⟩ := hp.2 j _ (List.getElem?_eq_getElem hjl)
    rw [hj] at hy'
    cases hy'
    exact h1)
  have hlv : off + vs.length ≤ us.toList.length := by rw [hp.1]; simp; omega
  have hpt : ∀ (j : Nat) (z : C), (putAt cs off ns)[j]? = some z → ∃ y : Value, (putAt us.toList off vs)[j]? = some y ∧ y.oneCell' = true ∧ Rc w E s.get z y := by
    intro j z hz
    rw [putAt_get _ _ _ hl.2] at hz
    rw [putAt_get _ _ _ hlv, hp.1]
    split at hz
    · rw [if_pos ‹_›]; exact hp.2 _ _ hz
    · rw [if_neg ‹_›]; simpa using hc j z hz
  obtain ⟨h1, h2⟩ := rel_upd hr (w' := w.setRow (E.b r) (putAt us.toList off vs).toArray) hg (o' := .box e (putAt cs off ns)) (by simp) (by simp) (vn := E.v r) (st' := E.st) (by simp [World.setRow])
    (fun k hk hne => setRow_other w _ k _ (fun e => hne (by rw [e]; rfl))) (fun b y hy => World.cell?_of_block (setRow_other w _ b _ (fun e => hns y (by rw [← e]; exact hy)))) (fun _ _ h => h) (fun _ _ h => .inl h)
    (fun k hk => .inl hk) (fun _ _ _ he => by cases he) (fun hle => ⟨(putAt us.toList off vs).toArray, setRow_heap w _ us _ e _ hb, by have := putAt_length us.toList vs off hlv; have := putAt_length cs ns off hl.2; simp at *; omega, fun j z hz => by
      obtain ⟨y', hy', h1, h2⟩ := hpt j z hz
      exact ⟨y', by simpa using hy', h1, h2.le hle⟩, hns⟩)
  exact ⟨undef, _, _, .inr ⟨hrun, rfl⟩, h1, h2, ⟨trivial, fun h => absurd rfl h⟩, ⟨rfl, rfl, rfl, by simp [World.setRow], fun k hk hno => setRow_other w _ k _ (blk_mine hr hg rfl hk hno)⟩, fun _ _ h => .inl h⟩
end
end Go.Vx
namespace Go.Vx
open Go Go.RowKit
section
variable {P : Program} {ti : TI} {N : Nat} {outs : Nat → Prop} {E E' : Env} {s : S} {a : Act} {w w' : World} {ob ob' : Ref → Option Ob} {st st' : Nat → Nat → Prop} {ds : List D} {us : List Value}

/-- Cells that are read, side by side. -/
def Pd (w : World) (st : Nat → Nat → Prop) (ds : List D) (us : List Value) : Prop :=
  us.length = ds.length ∧ ∃ n, ∀ (j : Nat) (x : D), ds[j]? = some x → ∃ y : Value, us[j]? = some y ∧ Rp w st n x y
theorem Pd.le (h : Pd w st ds us) (h1 : ∀ b o, st b o → st' b o) (h2 : ∀ b o, st b o → w'.cell? ⟨b, o, none⟩ = w.cell? ⟨b, o, none⟩) : Pd w' st' ds us := by
  obtain ⟨hl, n, hc⟩ := h
  exact ⟨hl, n, fun j x hx => by obtain ⟨y, hy, hp⟩ := hc j x hx; exact ⟨y, hy, hp.le h1 h2⟩⟩
theorem Pd.one (h : Pd w st ds us) : ∀ u ∈ us, u.oneCell' = true := by
  obtain ⟨hl, n, hc⟩ := h
  intro u hu
  obtain ⟨j, hj⟩ := List.mem_iff_getElem?.1 hu
  have hjl : j < ds.length := by rw [← hl]; exact (List.getElem?_eq_some_iff.1 hj).1
  obtain ⟨y, hy, hp⟩ := hc j _ (List.getElem?_eq_getElem hjl)
  rw [hj] at hy
  cases hy
  exact hp.one
theorem Pd.append {ds ds' : List D} {us us' : List Value} (h : Pd w st ds us) (k : Pd w st ds' us') : Pd w st (ds ++ ds') (us ++ us') := by
  obtain ⟨hl, n, hc⟩ := h
  obtain ⟨kl, m, kc⟩ := k
  refine ⟨by simp [hl, kl], max n m, fun j x hx => ?_⟩
  rcases Nat.lt_or_ge j ds.length with hj | hj
  · rw [List.getElem?_append_left hj] at hx
    obtain ⟨y, hy, hp⟩ := hc j x hx
    exact ⟨y, by rw [List.getElem?_append_left (by omega)]; exact hy, hp.up (by omega)⟩
  · rw [List.getElem?_append_right hj] at hx
    obtain ⟨y, hy, hp⟩ := kc _ x hx
    exact ⟨y, by rw [List.getElem?_append_right (by omega), hl]; exact hy, hp.up (by omega)⟩
theorem dz_sound {z : Option Nat} {c : C} {y : D} {u : Value} (h : c.dz? z = some y) (hR : Rc w E ob c u) : ∃ n, Rp w E.st n y u := by
  unfold C.dz? at h
  split at h
  · cases h
    obtain ⟨n, hn⟩ := hR
    exact ⟨_, hn.nl_rows⟩
  · cases h
    obtain ⟨n, hn⟩ := hR
    exact ⟨_, hn.em_rows⟩
  · unfold C.d? at h
    split at h
    · cases h; exact hR
    · cases h; exact hR.1
    · cases h; exact ⟨0, hR.2, rfl⟩
    · cases h
theorem allD_pd : ∀ {zs : List (Option Nat)} {cs : List C} {ds : List D} {us : List Value}, allD zs cs = some ds → Pt w E ob cs us → Pd w E.st ds us
  | _, [], ds, us, h, hp => by
    simp only [allD] at h
    cases h
    exact ⟨hp.1, 0, fun j x hx => by simp at hx⟩
  | zs, c :: cs, ds, us, h, hp => by
    simp only [allD] at h
    split at h
    case h_2 => cases h
    rename_i y r hy hr
    cases h
    cases us with
    | nil => have := hp.1; simp at this
    | cons u us =>
      obtain ⟨u', hu', h1, hR⟩ := hp.2 0 c rfl
      cases hu'
      have h2 := allD_pd (us := us) hr ⟨by have := hp.1; simpa using this, fun j z hz => by simpa using hp.2 (j + 1) z (by simpa using hz)⟩
      have h3 : Pd w E.st [y] [u] := by
        obtain ⟨n, hn⟩ := dz_sound hy hR
        refine ⟨rfl, n, fun j x hx => ?_⟩
        match j, hx with
        | 0, hx => cases hx; exact ⟨u, rfl, hn⟩
      exact h3.append h2
theorem chunks_length {α : Type} (sz : Nat) : ∀ (n : Nat) (l : List α), (chunks sz n l).length = n
  | 0, _ => rfl
  | n + 1, l => by simp [chunks, chunks_length]
theorem chunks_get {α : Type} (sz : Nat) : ∀ (n : Nat) (l : List α), l.length = n * sz → ∀ (i : Nat) (r : List α), (chunks sz n l)[i]? = some r → r.length = sz ∧ ∀ j, j < sz → r[j]? = l[i * sz + j]?
  | 0, _, _, i, r, h => by simp [chunks] at h
  | n + 1, l, hl, 0, r, h => by
    simp only [chunks, List.getElem?_cons_zero, Option.some.injEq] at h
    subst h
    rw [Nat.succ_mul] at hl
    refine ⟨by simp; omega, fun j hj => ?_⟩
    rw [List.getElem?_take, if_pos hj, Nat.zero_mul, Nat.zero_add]
  | n + 1, l, hl, i + 1, r, h => by
    simp only [chunks, List.getElem?_cons_succ] at h
    rw [Nat.succ_mul] at hl
    obtain ⟨h1, h2⟩ := chunks_get sz n (l.drop sz) (by simp; omega) i r h
    refine ⟨h1, fun j hj => ?_⟩
    rw [h2 j hj, List.getElem?_drop]
    congr 1
    rw [Nat.succ_mul]
    omega
/-- Rows that lie in one block from its beginning on. -/
theorem rows_at {g cap sz : Nat} {rs : List (List D)} {us : List Value} {cur : Array Value} {e : TypeId} (hg : w.heap[g]? = some (.cells cur e (0, 0))) (hsz : ∀ r ∈ rs, r.length = sz)
    (hp : Pd w st rs.flatten us) (hpre : ∀ (k : Nat) (y : Value), us[k]? = some y → cur[k]? = some y) (hst : ∀ x, x < rs.length * sz → st g x) (hcap : rs.length ≤ cap) (hm : rs.length ≤ maxLen) :
    ∃ n, Rp w st (n + 1) (.rows sz rs) (.slice (some ⟨g, 0, none⟩) rs.length cap) := by
  obtain ⟨hl, n, hc⟩ := hp
  have hfl : ∀ (rs : List (List D)), (∀ r ∈ rs, r.length = sz) → ∀ (i : Nat) (r : List D), rs[i]? = some r → ∀ (j : Nat) (x : D), r[j]? = some x → rs.flatten[i * sz + j]? = some x ∧ i * sz + j < rs.length * sz := by
    intro rs
    induction rs with
    | nil => intro _ i r h; simp at h
    | cons q rs ih =>
      intro hs i r h j x hx
      have hq := hs q List.mem_cons_self
      have hjl : j < r.length := (List.getElem?_eq_some_iff.1 hx).1
      cases i with
      | zero =>
        cases h
        rw [Nat.zero_mul, Nat.zero_add]
        refine ⟨by rw [List.flatten_cons, List.getElem?_append_left hjl]; exact hx, ?_⟩
        rw [List.length_cons, Nat.succ_mul]
        omega
      | succ i =>
        obtain ⟨h1, h2⟩ := ih (fun r hr => hs r (List.mem_cons_of_mem _ hr)) i r (by simpa using h) j x hx
        rw [List.flatten_cons, List.length_cons, Nat.succ_mul, Nat.succ_mul]
        refine ⟨?_, by omega⟩
        rw [List.getElem?_append_right (by omega), ← h1]
        congr 1
        omega
  refine ⟨n, some ⟨g, 0, none⟩, cap, rfl, ⟨hcap, hm, by simp⟩, hsz, fun i r hi j x hx => ?_⟩
  obtain ⟨h1, h2⟩ := hfl rs hsz i r hi j x hx
  obtain ⟨y, hy, hR⟩ := hc _ _ h1
  refine ⟨g, 0, y, rfl, hst _ (by omega), ?_, hR⟩
  simp [World.cell?, hg, hpre _ _ hy]
def cellAt (w : World) (A : Option Addr) (k : Nat) : Value :=
  match A with
  | some ad => (w.cell? ⟨ad.block, ad.off + k, none⟩).getD undef
  | none => undef
/-- What a slice that is read holds, cell by cell. -/
theorem rows_cells {sz : Nat} {rs : List (List D)} {A : Option Addr} {c n : Nat} (h : Rp w st (n + 1) (.rows sz rs) (.slice A rs.length c)) :
    ∃ us : List Value, Pd w st rs.flatten us ∧ us.length = rs.length * sz ∧ (us ≠ [] → ∃ ad, A = some ad ∧ ∀ (j : Nat) (u : Value), us[j]? = some u → w.cell? (ad.add j) = some u) := by
  obtain ⟨A', c', hu, hlen, hsz, hc⟩ := h
  injection hu with e1 _ e2
  subst e1 e2
  have key : ∀ (rs : List (List D)) (i0 : Nat), (∀ r ∈ rs, r.length = sz) → (∀ (i : Nat) (r : List D), rs[i]? = some r → ∀ (j : Nat) (x : D), r[j]? = some x → ∃ b o y, A = some ⟨b, o, none⟩ ∧ st b (o + ((i0 + i) * sz + j)) ∧ w.cell? ⟨b, o + ((i0 + i) * sz + j), none⟩ = some y ∧ Rp w st n x y) →
      ∃ us : List Value, us.length = rs.length * sz ∧ us.length = rs.flatten.length ∧ (∀ (j : Nat) (x : D), rs.flatten[j]? = some x → ∃ y : Value, us[j]? = some y ∧ Rp w st n x y) ∧
        ∀ (j : Nat) (u : Value), us[j]? = some u → ∃ b o, A = some ⟨b, o, none⟩ ∧ w.cell? ⟨b, o + (i0 * sz + j), none⟩ = some u := by
    intro rs
    induction rs with
    | nil => intro i0 _ _; exact ⟨[], by simp, rfl, fun j x hx => by simp at hx, fun j u hu => by simp at hu⟩
    | cons r rs ih =>
      intro i0 hs hc
      obtain ⟨us, h1, h2, h3, h4⟩ := ih (i0 + 1) (fun q hq => hs q (List.mem_cons_of_mem _ hq)) (fun i q hi j x hx => by
        have := hc (i + 1) q (by simpa using hi) j x hx
        rwa [show i0 + (i + 1) = i0 + 1 + i from by omega] at this)
      have hr : r.length = sz := hs r List.mem_cons_self
      have hrow : ∀ (j : Nat), j < r.length → ∃ b o y, A = some ⟨b, o, none⟩ ∧ w.cell? ⟨b, o + (i0 * sz + j), none⟩ = some y ∧ ∀ x, r[j]? = some x → Rp w st n x y := by
        intro j hj
        obtain ⟨b, o, y, hA, _, hy, hR⟩ := hc 0 r rfl j _ (List.getElem?_eq_getElem hj)
        exact ⟨b, o, y, hA, by simpa using hy, fun x hx => by rw [List.getElem?_eq_getElem hj] at hx; cases hx; exact hR⟩
      let f : Nat → Value := fun j => cellAt w A (i0 * sz + j)
      have hf : ∀ j, j < r.length → ∃ b o, A = some ⟨b, o, none⟩ ∧ w.cell? ⟨b, o + (i0 * sz + j), none⟩ = some (f j) ∧ ∀ x, r[j]? = some x → Rp w st n x (f j) := by
        intro j hj
        obtain ⟨b, o, y, hA, hy, hR⟩ := hrow j hj
        have : f j = y := by simp only [f, cellAt, hA, hy, Option.getD_some]
        exact ⟨b, o, hA, by rw [this]; exact hy, by rw [this]; exact hR⟩
      refine ⟨(List.range r.length).map f ++ us, by rw [List.length_append, List.length_map, List.length_range, h1, List.length_cons, Nat.succ_mul, hr]; omega, by rw [List.length_append, List.length_map, List.length_range, h2, List.flatten_cons, List.length_append], fun j x hx => ?_, fun j u hu => ?_⟩
      · rw [List.flatten_cons] at hx
        rcases Nat.lt_or_ge j r.length with hj | hj
        · rw [List.getElem?_append_left hj] at hx
          obtain ⟨b, o, _, _, hR⟩ := hf j hj
          exact ⟨f j, by rw [List.getElem?_append_left (by simpa using hj), List.getElem?_map, List.getElem?_range hj]; rfl, hR x hx⟩
        · rw [List.getElem?_append_right hj] at hx
          obtain ⟨y, hy, hR⟩ := h3 _ x hx
          exact ⟨y, by rw [List.getElem?_append_right (by simpa using hj)]; simpa using hy, hR⟩
      · rcases Nat.lt_or_ge j r.length with hj | hj
        · rw [List.getElem?_append_left (by simpa using hj), List.getElem?_map, List.getElem?_range hj] at hu
          cases hu
          obtain ⟨b, o, hA, hy, _⟩ := hf j hj
          exact ⟨b, o, hA, hy⟩
        · rw [List.getElem?_append_right (by simpa using hj)] at hu
          obtain ⟨b, o, hA, hy⟩ := h4 _ u hu
          refine ⟨b, o, hA, ?_⟩
          rw [← hy]
          congr 2
          simp only [List.length_map, List.length_range]
          rw [Nat.add_mul, Nat.one_mul]
          omega
  obtain ⟨us, h1, h2, h3, h4⟩ := key rs 0 hsz (fun i r hi j x hx => by simpa using hc i r hi j x hx)
  refine ⟨us, ⟨h2, n, h3⟩, h1, fun hne => ?_⟩
  obtain ⟨b, o, hA, _⟩ := h4 0 _ (List.getElem?_eq_getElem (show 0 < us.length from List.length_pos_iff.2 hne))
  refine ⟨⟨b, o, none⟩, hA, fun j u hu => ?_⟩
  obtain ⟨b', o', hA', hy⟩ := h4 j u hu
  rw [hA] at hA'
  injection hA' with hA'
  injection hA' with e1 e2
  subst e1 e2
  rw [add_none]
  simpa using hy
end
end Go.Vx
namespace Go.Vx
open Go Go.RowKit
section
variable {P : Program} {ti : TI} {N : Nat} {outs : Nat → Prop} {E E' : Env} {s : S} {a : Act} {w w' : World} {ob ob' : Ref → Option Ob}

theorem append_run {o : Oper} {x y : Operand} {t : TypeId} (ho : o.op = .call { callee := .builtin .append, args := #[x, y], argTypes := #[t, t] }) {v : Value}
    (h : (Builtin.append_ #[t, t] o.type #[a.eval x, a.eval y]).run P w = .ok v w') : (execOp a.eval o).run P w = .ok (.value v) w' := by
  obtain ⟨dst, op', type, pos, after, guard⟩ := o
  cases ho
  simp only [] at h
  simp [execOp, resolve, invoke, builtin, h]
theorem append_zero {t ty e : TypeId} {i : TypeInfo} (ht : P.underlying t = some (.slice e)) (hi : P.info? e = some i) {A B : Option Addr} {n c d : Nat} (hn : n ≤ c) :
    (Builtin.append_ #[t, t] ty #[.slice A n c, .slice B 0 d]).run P w = .ok (.slice A n c) w := by
  cases A <;> cases B <;> simp [Builtin.append_, run_underlying ht, sizeOf, typeInfo, hi, Builtin.lenOf, Builtin.firstCells, hn, loadCells, loadCellsFrom, storeCells]
/-- A new row that holds some cells. -/
theorem new_tok (hr : Rel N outs E s a w) {i0 : Nat} (hi : Free s i0) {o : Oper} {e : TypeId} {sz cap : Nat} {rs : List (List D)} {us : List Value} {cur : Array Value} (hsz : ∀ r ∈ rs, r.length = sz) (hl : us.length = rs.length * sz) (hp : Pd w E.st rs.flatten us)
    (hcs : cur.size = cap * sz) (hcap : rs.length ≤ cap) (hm : cap ≤ maxLen) (hpre : ∀ (k : Nat) (y : Value), us[k]? = some y → cur[k]? = some y) (hw : w' = w.alloc (.cells cur e) ∨ w' = w.drew.alloc (.cells cur e))
    (hrun : (execOp a.eval o).run P w = .ok (.value (.slice (some ⟨w.heap.size, 0, none⟩) rs.length cap)) w') :
    EffOk P N outs E s a w o (s.pushAt i0 (.tok e sz rs.length)) (.c (.tk (Ref.loc i0) sz rs)) := by
  have hheap : w'.heap = (w.alloc (.cells cur e)).heap := by rcases hw with rfl | rfl <;> rfl
  have hg : w'.heap[w.heap.size]? = some (.cells cur e (0, 0)) := by rw [hheap]; exact heap_new _ _
  have hcells : ∀ x, x < rs.length * sz → (w'.cell? ⟨w.heap.size, x, none⟩).isSome = true := by
    intro x hx
    have : x < cur.size := by rw [hcs]; exact Nat.lt_of_lt_of_le hx (Nat.mul_le_mul_right _ hcap)
    simp [World.cell?, hg, this]
  have hno : ∀ x, ¬ E.st w.heap.size x := fun x h => absurd (cell_lt (hr.has _ x h)) (by omega)
  have hold : ∀ b x, E.st b x → w'.cell? ⟨b, x, none⟩ = w.cell? ⟨b, x, none⟩ := fun b x h => World.cell?_of_block (by rw [hheap]; exact Below.heap_alloc w _ b (cell_lt (hr.has b x h)))
  obtain ⟨h1, h2⟩ := rel_push hr hi (o := .tok e sz rs.length) (ob0 := .cells cur e) (w' := w') (bn := 0) (vn := .slice (some ⟨w.heap.size, 0, none⟩) rs.length cap) (st' := fun b x => E.st b x ∨ (b = w.heap.size ∧ x < rs.length * sz)) hheap
    (fun b x h => h.imp id (·.1)) (fun b x h => .inl h) (fun x h => hcells x (h.elim (fun h => absurd h (hno x)) (·.2))) (fun k hk => by simpa [blk, Value.ownBlock] using hk.symm)
    (fun hle => ⟨w.heap.size, cap, cur, by simp, hg, hcap, hm, hcs, fun x h => h.elim (fun h => absurd h (hno x)) (·.2)⟩)
  obtain ⟨n, hR⟩ := rows_at (w := w') (st := fun b x => E.st b x ∨ (b = w.heap.size ∧ x < rs.length * sz)) hg hsz (hp.le (fun b x h => .inl h) hold) hpre (fun x hx => .inr ⟨rfl, hx⟩) hcap (by omega)
  refine ⟨_, w', _, .inl hrun, h1, h2, ⟨⟨⟨_, hR⟩, ⟨_, get_push_new hi _, by simp⟩, fun e' sz' n' he => ?_⟩, fun _ => rfl⟩, ?_, fun b x h => h.imp id fun h => .inl (by have := hr.low; omega)⟩
  · rw [get_push_new hi] at he
    injection he with he
    injection he with e1 e2 e3
    exact ⟨e2.symm, by omega, fun _ => by simp⟩
  · rcases hw with rfl | rfl
    · exact fr_alloc hr.low _
    · exact fr_drew (fr_alloc hr.low _)
theorem flat_rep {α : Type} (l : List α) (n k : Nat) : (List.flatten (List.replicate n l))[k]? = if k < n * l.length then l[k % l.length]? else none := by
  induction n generalizing k with
  | zero => simp
  | succ n ih =>
    rw [List.replicate_succ, List.flatten_cons]
    rcases Nat.lt_or_ge k l.length with h | h
    · rw [List.getElem?_append_left h, Nat.mod_eq_of_lt h, if_pos (by rw [Nat.succ_mul]; omega)]
    · rw [List.getElem?_append_right h, ih, Nat.succ_mul]
      by_cases c : k - l.length < n * l.length
      · rw [if_pos c, if_pos (by omega), ← Nat.mod_eq_sub_mod h]
      · rw [if_neg c, if_neg (by omega)]
theorem buildSlice_e (hti : TIok P ti) (hr : Rel N outs E s a w) {i0 : Nat} (hi0 : Free s i0) {o : Oper} {t e : TypeId} {n : Nat} {parts : Array (Nat × Operand)} {ps : List (Nat × V)} {r : TRow} {cs : List C} {ds : List D} (ho : o.op = .buildSlice t n parts)
    (hk : kdOf ti t = some (.slice e)) (hps : evParts s.ev parts.toList = some ps) (hre : ti e = some r) (h0 : 0 < r.size ∧ n * r.size ≤ 65536 ∧ n * r.bytes ≤ 65536)
    (hcs : fillC (fun i => some (i * r.size, r.size)) (List.flatten (List.replicate n (r.zero.map .d))) ps = some cs) (hds : allD (List.flatten (List.replicate n r.szs)) cs = some ds) :
    EffOk P N outs E s a w o (s.pushAt i0 (.tok e r.size n)) (.c (.tk (Ref.loc i0) r.size (chunks r.size n ds))) := by
  obtain ⟨i, z, hi, hz, hpt⟩ := zero_pt (w := w) (E := E) (ob := s.get) hti hre
  obtain ⟨i', hi', hs', hb'⟩ := info_of hti hre
  rw [hi] at hi'
  cases hi'
  have hzl : r.zero.length = r.size := by obtain ⟨_, _, _, _, _, _, _, h, _⟩ := (hti e r hre).info; exact h
  have hzs : z.cells.size = r.size := by have := hpt.1; simp [hzl] at this; exact this
  obtain ⟨h1, h2⟩ := evParts_sound hr hps
  have hinit : Pt w E s.get (List.flatten (List.replicate n (r.zero.map C.d))) ((Array.range (n * r.size)).map (z.cells[· % z.cells.size]!)).toList := by
    refine ⟨by simp [hzl], fun j x hx => ?_⟩
    rw [flat_rep] at hx
    split at hx
    case isFalse => cases hx
    rename_i hj
    rw [List.length_map, hzl] at hx hj
    obtain ⟨y, hy, hy1, hy2⟩ := hpt.2 _ x hx
    refine ⟨y, ?_, hy1, hy2⟩
    have hm : j % r.size < z.cells.size := by rw [hzs]; exact Nat.mod_lt _ h0.1
    rw [Array.toList_map, List.getElem?_map, Array.toList_range, List.getElem?_range hj]
    simp only [Option.map_some, hzs, Option.some.injEq]
    rw [getElem!_pos z.cells _ hm]
    simpa [hm] using hy
  obtain ⟨us', hF, hP⟩ := fill_sound (fs := fun i => some (i * r.size, r.size)) (place := fun i => some (i * r.size, r.size)) (fun i p h => h) (vs := (parts.map fun (i, x) => (i, a.eval x)).toList) hcs (by simp [h1]) (fun j p hj => by
    obtain ⟨x, hx, hv⟩ := h2 j p hj
    exact ⟨a.eval x, by simp only [Array.toList_map, List.getElem?_map, hx]; rfl, hv⟩) hinit
  have hlen : cs.length = n * r.size := by
    have hfl : ∀ (ps : List (Nat × V)) (cs cs' : List C), fillC (fun i => some (i * r.size, r.size)) cs ps = some cs' → cs'.length = cs.length := by
      intro ps
      induction ps with
      | nil => intro cs cs' h; cases h; rfl
      | cons p ps ih =>
        intro cs cs' h
        obtain ⟨i, v⟩ := p
        simp only [fillC] at h
        split at h
        case h_2 => cases h
        rename_i off size ns hfs hns
        split at h
        case isFalse => cases h
        rename_i hle
        rw [ih _ _ h, putAt_length _ _ _ (by omega)]
    rw [hfl _ _ _ hcs]
    simp [hzl]
  have hpd := allD_pd hds hP
  have hdl : ds.length = n * r.size := by rw [← hpd.1, hP.1, hlen]
  have hcl := chunks_length r.size n ds
  have hflat : ∀ (n : Nat) (l : List D), l.length = n * r.size → (chunks r.size n l).flatten = l := by
    intro n
    induction n with
    | zero => intro l hl; simp at hl; subst hl; rfl
    | succ n ih =>
      intro l hl
      rw [Nat.succ_mul] at hl
      simp only [chunks, List.flatten_cons]
      rw [ih _ (by simp; omega), List.take_append_drop]
  have hrun : (execOp a.eval o).run P w = .ok (.value (.slice (some ⟨w.heap.size, 0, none⟩) (chunks r.size n ds).length n)) (w.alloc (.cells us'.toArray e)) := by
    rw [hcl]
    have hle : ¬ (2 ^ 24 < n * r.size) := by omega
    obtain ⟨dst, op', type, pos, after, guard⟩ := o
    cases ho
    simp only [execOp, Instr.buildSlice]
    simp only [Array.toArray_toList] at hF
    have hz0 : (zeroValue e).run P w = .ok z w := by simp [zeroValue, typeInfo, hi, hz]
    by_cases hn : n * r.size = 0
    · have hF' : Instr.fill (fun i => some (i * r.size, r.size)) ((Array.range (n * r.size)).map ((#[] : Array Value)[· % (#[] : Array Value).size]!)) (parts.map fun (i, x) => (i, a.eval x)).toList = some us'.toArray := by
        rw [← hF, hn, show (Array.range 0) = #[] from rfl]
        simp
      simp [run_underlying (kd_of hti hk), sizeOf_of hti hre, hn] at hF' ⊢
      simp [hF', newRow]
    · simp [run_underlying (kd_of hti hk), sizeOf_of hti hre, hle, hn, hz0]
      simp at hF
      simp [hF, newRow]
  have := new_tok hr hi0 (o := o) (e := e) (sz := r.size) (cap := n) (rs := chunks r.size n ds) (us := us') (cur := us'.toArray) (fun q hq => by
      obtain ⟨i, hi⟩ := List.mem_iff_getElem?.1 hq
      exact (chunks_get r.size n ds hdl i q hi).1) (by rw [hcl, hP.1, hlen]) (by rw [hflat n ds hdl]; exact hpd) (by simp [hP.1, hlen]) (by rw [hcl]; exact Nat.le_refl _) (by
      have := Nat.le_mul_of_pos_right n h0.1
      simp only [maxLen]
      omega) (fun k y hk => by simpa using hk) (.inl rfl) hrun
  rw [hcl] at this
  exact this
end
end Go.Vx
namespace Go.Vx
open Go Go.RowKit
section
variable {P : Program} {ti : TI} {N : Nat} {outs : Nat → Prop} {E E' : Env} {s : S} {a : Act} {w w' : World} {ob ob' : Ref → Option Ob}

/-- What is appended, where it lies. -/
theorem news_of {y : C} {ns : List (List D)} {u : Value} {sz : Nat} (hy : y.rows? = some ns) (hu : Rc w E ob y u) (hs : ∀ r ∈ ns, r.length = sz) (hz : 0 < sz) :
    (ns = [] ∧ ∃ B d, u = .slice B 0 d) ∨ ∃ ad c us, u = .slice (some ad) ns.length c ∧ Pd w E.st ns.flatten us ∧ us.length = ns.length * sz ∧ ∀ (j : Nat) (v : Value), us[j]? = some v → w.cell? (ad.add j) = some v := by
  rcases rows_of hy hu with ⟨rfl, _, rfl⟩ | ⟨n, sz', _, hp⟩
  · exact .inl ⟨rfl, _, _, rfl⟩
  · have hp' := hp
    obtain ⟨A, c, rfl, _, hsz, _⟩ := hp'
    cases hns : ns with
    | nil => subst hns; exact .inl ⟨rfl, _, _, rfl⟩
    | cons q qs =>
      have e : sz' = sz := by
        rw [← hsz q (by rw [hns]; exact List.mem_cons_self), hs q (by rw [hns]; exact List.mem_cons_self)]
      subst e
      obtain ⟨us, h1, h2, h3⟩ := rows_cells hp
      have hne : us ≠ [] := by
        intro e
        rw [e, hns] at h2
        simp only [List.length_nil, List.length_cons, Nat.succ_mul] at h2
        omega
      obtain ⟨ad, rfl, hc⟩ := h3 hne
      rw [← hns]
      exact .inr ⟨ad, c, us, rfl, h1, h2, hc⟩
theorem append_v0 (hti : TIok P ti) (hr : Rel N outs E s a w) {o : Oper} {x y : Operand} {t e : TypeId} {r : TRow} {vx : V} {c : C} (ho : o.op = .call { callee := .builtin .append, args := #[x, y], argTypes := #[t, t] })
    (hk : kdOf ti t = some (.slice e)) (hre : ti e = some r) (hx : s.ev x = some vx) (hy : s.ev y = some (.c c)) (hc : c.rows? = some []) (hvx : vx = .c (.d .nl) ∨ ∃ q sz rs, vx = .c (.tk q sz rs)) : ValOk P E s a w o vx := by
  obtain ⟨i, hi, _⟩ := info_of hti hre
  refine ⟨a.eval x, ?_, ev_sound hr hx⟩
  have hyu : ∃ B d, a.eval y = .slice B 0 d := by
    rcases rows_of hc (ev_sound hr hy).1 with ⟨_, _, h⟩ | ⟨n, sz, _, A, c', h, _⟩
    · exact ⟨_, _, h⟩
    · exact ⟨_, _, h⟩
  obtain ⟨B, d, hB⟩ := hyu
  have hxu : ∃ A n c', a.eval x = .slice A n c' ∧ n ≤ c' := by
    rcases hvx with rfl | ⟨q, sz, rs, rfl⟩
    · obtain ⟨⟨n, hn⟩, -⟩ := ev_sound hr hx
      exact ⟨none, 0, 0, by cases n <;> exact hn, Nat.le_refl _⟩
    · obtain ⟨⟨⟨n, hn⟩, _⟩, -⟩ := ev_sound hr hx
      obtain ⟨A, c', h, h1, _⟩ := hn.up (show n ≤ n + 1 by omega)
      exact ⟨A, _, c', h, h1.1⟩
  obtain ⟨A, n, c', hA, hle⟩ := hxu
  refine append_run ho ?_
  rw [hA, hB]
  exact append_zero (kd_of hti hk) hi hle
theorem append_new (hti : TIok P ti) (hr : Rel N outs E s a w) {i0 : Nat} (hi0 : Free s i0) {o : Oper} {x y : Operand} {t e : TypeId} {r : TRow} {c : C} {ns : List (List D)} (ho : o.op = .call { callee := .builtin .append, args := #[x, y], argTypes := #[t, t] })
    (hk : kdOf ti t = some (.slice e)) (hre : ti e = some r) (hx : s.ev x = some (.c (.d .nl))) (hy : s.ev y = some (.c c)) (hc : c.rows? = some ns) (hs : ∀ q ∈ ns, q.length = r.size) (hz : 0 < r.size) (hne : ns.length ≠ 0) (hfit : fits r ns.length) :
    EffOk P N outs E s a w o (s.pushAt i0 (.tok e r.size ns.length)) (.c (.tk (Ref.loc i0) r.size ns)) := by
  obtain ⟨i, z, hi, hzr, hpt⟩ := zero_pt (w := w) (E := E) (ob := s.get) hti hre
  obtain ⟨i', hi', hs', hb'⟩ := info_of hti hre
  rw [hi] at hi'
  cases hi'
  have hzs : z.cells.size = r.size := by obtain ⟨_, h, _, _, z', h', h2, _⟩ := (hti e r hre).info; rw [hi] at h; cases h; rw [hzr] at h'; cases h'; exact h2
  have hxu : a.eval x = .slice none 0 0 := by
    obtain ⟨⟨n, hn⟩, -⟩ := ev_sound hr hx
    cases n <;> exact hn
  rcases news_of hc (ev_sound hr hy).1 hs hz with ⟨h, _⟩ | ⟨ad, c', us, hyu, hpd, hul, hcells⟩
  · rw [h] at hne; simp at hne
  have hf1 : ns.length * i.bytes ≤ 140737488355328 := by rw [hb']; exact hfit.1
  have hrun := run_append_nil (P := P) w t o.type e i z (kd_of hti hk) hi hzr ad ns.length c' us (by rw [hul, hs']) hcells (by omega) (by have := hfit.2; omega) (by omega)
  have hge := grownCap_ge w ns.length 0 e
  have hcm : grownCap w ns.length 0 e ≤ maxLen := grownCap_le_maxLen w _ 0 e (by have := hfit.2; simp only [maxLen]; omega)
  refine new_tok hr hi0 (us := us) (cap := grownCap w ns.length 0 e) (cur := us.toArray ++ Builtin.zeroCells z.cells (grownCap w ns.length 0 e - ns.length)) hs hul hpd ?_ hge hcm (fun k v hk => ?_) (.inr rfl) (append_run ho (by rw [hxu, hyu]; exact hrun))
  · simp only [Array.size_append, List.size_toArray, size_zeroCells, hzs, hul, ← Nat.add_mul]
    congr 1
    omega
  · have hlt := (List.getElem?_eq_some_iff.1 hk).1
    rw [Array.getElem?_append_left (by simpa using hlt)]
    simpa using hk
theorem append_tok (hti : TIok P ti) (hr : Rel N outs E s a w) {o : Oper} {x y : Operand} {t e : TypeId} {r : TRow} {c : C} {q : Ref} {rs ns : List (List D)} (ho : o.op = .call { callee := .builtin .append, args := #[x, y], argTypes := #[t, t] })
    (hk : kdOf ti t = some (.slice e)) (hre : ti e = some r) (hx : s.ev x = some (.c (.tk q r.size rs))) (hq : s.get q = some (.tok e r.size rs.length)) (hy : s.ev y = some (.c c)) (hc : c.rows? = some ns) (hs : ∀ q ∈ ns, q.length = r.size) (hz : 0 < r.size) (hne : ns.length ≠ 0)
    (hfit : fits r (rs.length + ns.length)) :
    EffOk P N outs E s a w o (s.upd q (.tok e r.size (rs.length + ns.length))) (.c (.tk q r.size (rs ++ ns))) := by
  obtain ⟨i, z, hi, hzr, hpt⟩ := zero_pt (w := w) (E := E) (ob := s.get) hti hre
  obtain ⟨i', hi', hs', hb'⟩ := info_of hti hre
  rw [hi] at hi'
  cases hi'
  have hzs : z.cells.size = r.size := by obtain ⟨_, h, _, _, z', h', h2, _⟩ := (hti e r hre).info; rw [hi] at h; cases h; rw [hzr] at h'; cases h'; exact h2
  obtain ⟨⟨⟨n, hn⟩, hlv, hperm⟩, -⟩ := ev_sound hr hx
  have hxu : a.eval x = E.v q := (hperm _ _ _ hq).2.2 rfl
  obtain ⟨g, cap, cur, hv, hg, hnc, hcm, hcs, hsg⟩ := hr.objs q _ hq
  have hn1 := hn.up (show n ≤ n + 1 by omega)
  rw [hxu, hv] at hn1
  have hrsz : ∀ x ∈ rs, x.length = r.size := by obtain ⟨_, _, _, _, h, _⟩ := hn1; exact h
  obtain ⟨us0, hpd0, hul0, hc0⟩ := rows_cells hn1
  have hpre0 : ∀ (k : Nat) (v : Value), us0[k]? = some v → cur[k]? = some v := by
    intro k v hkv
    have hne0 : us0 ≠ [] := fun h => by rw [h] at hkv; simp at hkv
    obtain ⟨ad, had, hcell⟩ := hc0 hne0
    cases had
    have := hcell k v hkv
    rw [add_none] at this
    simpa [World.cell?, hg] using this
  rcases news_of hc (ev_sound hr hy).1 hs hz with ⟨h, _⟩ | ⟨ad, c', us, hyu, hpd, hul, hcells⟩
  · rw [h] at hne; simp at hne
  have hf1 : (rs.length + ns.length) * i.bytes ≤ 140737488355328 := by rw [hb']; exact hfit.1
  have hall : ∀ x ∈ rs ++ ns, x.length = r.size := fun x hx => by
    rcases List.mem_append.1 hx with h | h
    · exact hrsz x h
    · exact hs x h
  have hlen : (rs ++ ns).length = rs.length + ns.length := List.length_append
  have hgl : g < w.heap.size := (Array.getElem?_eq_some_iff.1 hg).1
  have hbq : blk E q (.tok e r.size rs.length) = some g := by simp [blk, hv, Value.ownBlock]
  by_cases hroom : rs.length + ns.length ≤ cap
  · -- the row has room
    have hfitc : rs.length * i.size + us.length ≤ cur.size := by rw [hul, hs', hcs, ← Nat.add_mul]; exact Nat.mul_le_mul_right _ hroom
    have hrun := run_append_room (P := P) w t o.type e i (kd_of hti hk) hi g rs.length cap cur hg ad ns.length c' us (by rw [hul, hs']) hcells hpd.one hroom hfitc
    rw [hs'] at hrun hfitc
    obtain ⟨cur', hcur'⟩ : ∃ cur', cur' = (cur.toList.take (rs.length * r.size) ++ us ++ cur.toList.drop (rs.length * r.size + us.length)).toArray := ⟨_, rfl⟩
    rw [← hcur'] at hrun
    have hput : cur'.toList = putAt cur.toList (rs.length * r.size) us := by rw [hcur']; rfl
    have hget : ∀ k : Nat, cur'[k]? = if rs.length * r.size ≤ k ∧ k < rs.length * r.size + us.length then us[k - rs.length * r.size]? else cur[k]? := by
      intro k
      have := putAt_get cur.toList us (rs.length * r.size) (by simpa using hfitc) k
      rw [← hput] at this
      simpa using this
    have hcsz : cur'.size = cur.size := by
      have := putAt_length cur.toList us (rs.length * r.size) (by simpa using hfitc)
      rw [← hput] at this
      simpa using this
    have hg' : (w.setRow g cur').heap[g]? = some (.cells cur' e (0, 0)) := setRow_heap w g cur cur' e _ hg
    have hold : ∀ k, k ≠ g → (w.setRow g cur').heap[k]? = w.heap[k]? := fun k hk => setRow_other w g k cur' hk
    have hcell : ∀ b x, E.st b x → (w.setRow g cur').cell? ⟨b, x, none⟩ = w.cell? ⟨b, x, none⟩ := by
      intro b x hb
      by_cases e1 : b = g
      · subst e1
        have hlt := hsg x hb
        simp only [World.cell?, hg', hg, Option.isSome_none, Bool.false_eq_true, if_false]
        rw [hget x, if_neg (by omega)]
      · exact World.cell?_of_block (hold b e1)
    obtain ⟨h1, h2⟩ := rel_upd hr (w' := w.setRow g cur') hq (o' := .tok e r.size (rs.length + ns.length)) (by simp) (by simp) (vn := .slice (some ⟨g, 0, none⟩) (rs.length + ns.length) cap) (st' := fun b x => E.st b x ∨ (b = g ∧ x < (rs.length + ns.length) * r.size))
      (by simp [World.setRow]) (fun k hk hne => hold k (fun e1 => hne (by rw [hbq, e1]))) hcell (fun b x h => .inl h) (fun b x h => by
        rcases h with h | ⟨rfl, h⟩
        · exact .inl h
        · refine .inr ⟨by simp [blk, Value.ownBlock], ?_⟩
          have : x < cur'.size := by rw [hcsz, hcs]; exact Nat.lt_of_lt_of_le h (Nat.mul_le_mul_right _ hroom)
          simp [World.cell?, hg', this])
      (fun k hk => .inl (by rw [hbq]; simpa [blk, Value.ownBlock] using hk)) (fun e1 sz1 n1 he => by cases he; exact ⟨_, rfl, by omega, fun h => absurd h (by omega)⟩)
      (fun hle => ⟨g, cap, cur', by simp, hg', hroom, hcm, by rw [hcsz, hcs], fun x h => by
        rcases h with h | ⟨_, h⟩
        · exact Nat.lt_of_lt_of_le (hsg x h) (Nat.mul_le_mul_right _ (by omega))
        · exact h⟩)
    obtain ⟨m, hR⟩ := rows_at (w := w.setRow g cur') (st := fun b x => E.st b x ∨ (b = g ∧ x < (rs.length + ns.length) * r.size)) (rs := rs ++ ns) (us := us0 ++ us) (cap := cap) hg' hall
      (by rw [List.flatten_append]; exact (hpd0.append hpd).le (fun b x h => .inl h) hcell) (fun k v hkv => by
        rw [hget k]
        rcases Nat.lt_or_ge k us0.length with h | h
        · rw [List.getElem?_append_left h] at hkv
          rw [if_neg (by omega)]
          exact hpre0 k v hkv
        · rw [List.getElem?_append_right h] at hkv
          have := (List.getElem?_eq_some_iff.1 hkv).1
          rw [if_pos (by omega), ← hul0]
          exact hkv) (fun x hx => .inr ⟨rfl, by rwa [hlen] at hx⟩) (by rw [hlen]; exact hroom) (by rw [hlen]; have := hfit.2; simp only [maxLen]; omega)
    rw [hlen] at hR
    refine ⟨_, _, _, .inl (append_run ho (by rw [hxu, hv, hyu]; exact hrun)), h1, h2, ⟨⟨⟨_, by rw [← hlen] at hR ⊢; exact hR⟩, ⟨_, by rw [get_upd hq, if_pos rfl], by simp⟩, fun e' sz' n' he => ?_⟩, fun _ => rfl⟩, ⟨rfl, rfl, rfl, by simp [World.setRow], fun k hk hno => hold k (blk_mine hr hq hbq hk hno)⟩, fun b x h => h.imp id fun h => by rw [h.1]; exact hr.mine q _ g hq hbq⟩
    rw [get_upd hq, if_pos rfl] at he
    injection he with he
    injection he with e1 e2 e3
    exact ⟨e2.symm, by rw [hlen]; omega, fun _ => by simp⟩
  · -- a new row
    have hrun := run_append_grow (P := P) w t o.type e i z (kd_of hti hk) hi hzr ⟨g, 0, none⟩ rs.length cap us0 (by rw [hul0, hs']) (fun j v hj => by
      rw [add_none]
      simpa [World.cell?, hg] using hpre0 j v hj) ad ns.length c' us (by rw [hul, hs']) hcells (by omega) (by have := hfit.2; omega) (growslice_fits (by omega) hf1)
    have hge := grownCap_ge w (rs.length + ns.length) cap e
    have hcm' : grownCap w (rs.length + ns.length) cap e ≤ maxLen := grownCap_le_maxLen w _ cap e (by have := hfit.2; simp only [maxLen]; omega)
    obtain ⟨K, hK⟩ : ∃ K, K = grownCap w (rs.length + ns.length) cap e := ⟨_, rfl⟩
    rw [← hK] at hrun hge hcm'
    obtain ⟨cur', hcur'⟩ : ∃ cur', cur' = us0.toArray ++ us.toArray ++ Builtin.zeroCells z.cells (K - (rs.length + ns.length)) := ⟨_, rfl⟩
    rw [← hcur'] at hrun
    have hcs' : cur'.size = K * r.size := by
      rw [hcur']
      simp only [Array.size_append, List.size_toArray, size_zeroCells, hzs, hul, hul0, ← Nat.add_mul]
      congr 1
      omega
    have hg' : (w.drew.alloc (.cells cur' e)).heap[w.heap.size]? = some (.cells cur' e (0, 0)) := heap_new w _
    have hold : ∀ k, k < w.heap.size → (w.drew.alloc (.cells cur' e)).heap[k]? = w.heap[k]? := fun k hk => Below.heap_alloc w _ k hk
    have hcell : ∀ b x, E.st b x → (w.drew.alloc (.cells cur' e)).cell? ⟨b, x, none⟩ = w.cell? ⟨b, x, none⟩ := fun b x h => World.cell?_of_block (hold b (cell_lt (hr.has b x h)))
    have hno : ∀ x, ¬ E.st w.heap.size x := fun x h => absurd (cell_lt (hr.has _ x h)) (by omega)
    obtain ⟨h1, h2⟩ := rel_upd hr (w' := w.drew.alloc (.cells cur' e)) hq (o' := .tok e r.size (rs.length + ns.length)) (by simp) (by simp) (vn := .slice (some ⟨w.heap.size, 0, none⟩) (rs.length + ns.length) K) (st' := fun b x => E.st b x ∨ (b = w.heap.size ∧ x < (rs.length + ns.length) * r.size))
      (by show w.heap.size ≤ (w.heap.push _).size; simp) (fun k hk _ => hold k hk) hcell (fun b x h => .inl h) (fun b x h => by
        rcases h with h | ⟨rfl, h⟩
        · exact .inl h
        · refine .inr ⟨by simp [blk, Value.ownBlock], ?_⟩
          have : x < cur'.size := by rw [hcs']; exact Nat.lt_of_lt_of_le h (Nat.mul_le_mul_right _ hge)
          unfold World.cell?
          rw [hg']
          simp [this])
      (fun k hk => .inr (by
        have : w.heap.size = k := by simpa [blk, Value.ownBlock] using hk
        omega)) (fun e1 sz1 n1 he => by cases he; exact ⟨_, rfl, by omega, fun h => absurd h (by omega)⟩)
      (fun hle => ⟨w.heap.size, K, cur', by simp, hg', hge, hcm', hcs', fun x h => h.elim (fun h => absurd h (hno x)) (·.2)⟩)
    obtain ⟨m, hR⟩ := rows_at (w := w.drew.alloc (.cells cur' e)) (st := fun b x => E.st b x ∨ (b = w.heap.size ∧ x < (rs.length + ns.length) * r.size)) (rs := rs ++ ns) (us := us0 ++ us) (cap := K) hg' hall
      (by rw [List.flatten_append]; exact (hpd0.append hpd).le (fun b x h => .inl h) hcell) (fun k v hkv => by
        have hlt := (List.getElem?_eq_some_iff.1 hkv).1
        rw [hcur', Array.getElem?_append_left (by simpa using hlt)]
        simpa using hkv) (fun x hx => .inr ⟨rfl, by rwa [hlen] at hx⟩) (by rw [hlen]; exact hge) (by rw [hlen]; have := hfit.2; simp only [maxLen]; omega)
    rw [hlen] at hR
    refine ⟨_, _, _, .inl (append_run ho (by rw [hxu, hv, hyu]; exact hrun)), h1, h2, ⟨⟨⟨_, by rw [← hlen] at hR ⊢; exact hR⟩, ⟨_, by rw [get_upd hq, if_pos rfl], by simp⟩, fun e' sz' n' he => ?_⟩, fun _ => rfl⟩, fr_drew (fr_alloc hr.low _), fun b x h => h.imp id fun h => .inl (by have := hr.low; omega)⟩
    rw [get_upd hq, if_pos rfl] at he
    injection he with he
    injection he with e1 e2 e3
    exact ⟨e2.symm, by rw [hlen]; omega, fun _ => by simp⟩
end
end Go.Vx
namespace Go.Vx
open Go Go.RowKit
section
variable {P : Program} {ti : TI} {N : Nat} {outs : Nat → Prop} {E E' : Env} {s : S} {a : Act} {w w' : World} {ob ob' : Ref → Option Ob}

theorem sameK_eq {a b : Value} (h : sameK a b = some true) : a = b := by
  unfold sameK at h
  split at h
  · simp at h; rw [h]
  · split at h
    · simp at h; simp [*]
    · cases h
  · split at h
    · rename_i a' b' _ _ p p' q q' e1 e2
      simp at h
      rw [toList_two' e1, toList_two' e2, h.1, h.2]
    · cases h
  · cases h
theorem putK_sound {kv : Value} {y : C} : ∀ {es es' : List (Value × C)} {ents : List MapEntry} {i0 : Nat}, putK kv y es = some es' → ents.length = es.length →
    (∀ (j : Nat) (q : Value) (x : C), es[j]? = some (q, x) → ∃ en : MapEntry, ents[j]? = some en ∧ en.key = q) →
    (posE kv ents i0 = some none ∧ es' = es ++ [(kv, y)]) ∨ ∃ i v, posE kv ents i0 = some (some (i0 + i, v)) ∧ i < es.length ∧ es' = es.set i (kv, y) ∧ ∃ en : MapEntry, ents[i]? = some en ∧ en.key = kv
  | [], es', ents, i0, h, hl, _ => by
    cases h
    have : ents = [] := List.eq_nil_of_length_eq_zero hl
    subst this
    exact .inl ⟨rfl, rfl⟩
  | (q, x) :: es, es', ents, i0, h, hl, hc => by
    cases ents with
    | nil => simp at hl
    | cons en ents =>
      obtain ⟨en', he, h1⟩ := hc 0 q x rfl
      cases he
      have ih := fun {es'} (h : putK kv y es = some es') => putK_sound (es := es) (es' := es') (ents := ents) (i0 := i0 + 1) h (by simpa using hl) (fun j q' x' hj => by simpa using hc (j + 1) q' x' (by simpa using hj))
      subst h1
      unfold putK at h
      split at h
      · rename_i hs
        cases h
        exact .inr ⟨0, en.val, by simp [posE, hs], by simp, rfl, en, rfl, (sameK_eq hs).symm⟩
      · rename_i hs
        obtain ⟨es0, h0, he⟩ := Option.map_eq_some_iff.1 h
        subst he
        have hf : posE kv (en :: ents) i0 = posE kv ents (i0 + 1) := by simp [posE, hs]
        rw [hf]
        rcases ih h0 with ⟨h2, h3⟩ | ⟨i, v, h2, h3, h4, e, h5, h6⟩
        · exact .inl ⟨h2, by rw [h3]; rfl⟩
        · exact .inr ⟨i + 1, v, by rw [h2]; congr 3; omega, by simp; omega, by rw [h4]; rfl, e, by simpa using h5, h6⟩
      · cases h
theorem sameBits_key {k : TypeId} {kv : Value} (h : KeyK P k kv) : Instr.sameBits 10000 kv kv = true := by
  cases kv <;> first | exact h.elim | skip
  · simp [Instr.sameBits]
  · simp [Instr.sameBits, ba_beq]
  · obtain ⟨e, i, p, q, _, _, _, _, rfl⟩ := h
    simp [Instr.sameBits, ba_beq]
theorem setMap {r : Nat} {es : Array MapEntry} {clock : Nat} (o : Obj) (hb : w.heap[r]? = some (.map es clock)) : (setObj r o).run P w = .ok () { w with heap := w.heap.setIfInBounds r o } := by simp [setObj, Sem.run, hb]
def mapAfter (kv y : Value) (ents : Array MapEntry) (clock : Nat) : Option (Nat × Value) → Obj
  | some (n, _) => .map (ents.modify n fun en => { en with key := kv, val := y }) clock
  | none => .map (ents.push { key := kv, val := y, born := clock }) (clock + 1)
theorem mapUpdate_run {o : Oper} {t k e : TypeId} {x i y : Operand} {kv : Value} (hU : P.underlying t = some (.map k e)) (hkk : KeyK P k kv) (hi : a.eval i = kv)
    (ho : o.op = .mapUpdate t x i y ∨ o.op = .insert t x i y) {b : Nat} {ents : Array MapEntry} {clock : Nat} (hx : a.eval x = .map (some b)) (hb : w.heap[b]? = some (.map ents clock)) {q : Option (Nat × Value)}
    (hf : posE kv ents.toList 0 = some q) (hq : ∀ n v, q = some (n, v) → ∃ en : MapEntry, ents[n]? = some en ∧ en.key = kv) :
    (execOp a.eval o).run P w = .ok .skip { w with heap := w.heap.setIfInBounds b (mapAfter kv (a.eval y) ents clock q) } := by
  have hF : (Instr.findKey k kv ents.toList).run P w = .ok q w := findKey_run hkk hf
  have key : (Instr.mapUpdate t (a.eval x) (a.eval i) (a.eval y)).run P w = .ok () { w with heap := w.heap.setIfInBounds b (mapAfter kv (a.eval y) ents clock q) } := by
    rw [hi]
    cases q with
    | none => simp [Instr.mapUpdate, hx, run_underlying hU, getMap hb, checkKey_run hkk, hF, setMap _ hb, mapAfter]
    | some q =>
      obtain ⟨n, v⟩ := q
      obtain ⟨en, he, hk'⟩ := hq n v rfl
      have hs : (Instr.keyThatStays (((ents[n]?).map (·.key)).getD kv) kv).run P w = .ok kv w := by
        simp [Instr.keyThatStays, he, hk', sameBits_key hkk]
      simp [Instr.mapUpdate, hx, run_underlying hU, getMap hb, checkKey_run hkk, hF, hs, setMap _ hb, mapAfter]
  obtain ⟨dst, op', type, pos, after, guard⟩ := o
  rcases ho with ho | ho <;> (cases ho; simp [execOp, key])
theorem mapUpdate_e (hti : TIok P ti) (hr : Rel N outs E s a w) {o : Oper} {t kt et : TypeId} {x i y : Operand} {r : Ref} {kv : Value} {c : C} {es es' : List (Value × C)} (ho : o.op = .mapUpdate t x i y ∨ o.op = .insert t x i y)
    (hk : kdOf ti t = some (.map kt et)) (hx : s.ev x = some (.c (.mp r))) (hi : (s.ev i).bind keyV = some kv) (hy : s.ev y = some (.c c)) (hc : c ≠ .dead) (hg : s.get r = some (.map es)) (hko : keyOk ti kt kv = true) (he : putK kv c es = some es') :
    EffOk P N outs E s a w o (s.upd r (.map es')) (.c .dead) := by
  obtain ⟨hU, hkt⟩ := kd_of hti hk
  obtain ⟨ents, clock, hb, ⟨hl, hclk, hbrn⟩, hcs⟩ := hr.objs r _ hg
  have hdk := keyOk_sound hti hko
  obtain ⟨vk, hvk, hvk2⟩ := Option.bind_eq_some_iff.1 hi
  have hkv := keyV_sound hr hvk hvk2
  have hlt : E.b r < w.heap.size := (Array.getElem?_eq_some_iff.1 hb).1
  have hyR := ev_sound hr hy
  have hy1 : (a.eval y).oneCell' = true := hyR.2 hc
  have hns : ∀ x, ¬ E.st (E.b r) x := by
    intro x hs
    have := hr.has _ x hs
    simp [World.cell?, hb] at this
  have fin : ∀ (ents' : Array MapEntry) (clock' : Nat), (ents'.size = es'.length ∧ clock' = ents'.size ∧ ∀ (j : Nat) (en : MapEntry), ents'[j]? = some en → en.born = j) → (∀ (j : Nat) (q : Value) (x : C), es'[j]? = some (q, x) → ∃ en : MapEntry, ents'[j]? = some en ∧ en.key = q ∧ en.val.oneCell' = true ∧ Rc w E s.get x en.val) →
      (execOp a.eval o).run P w = .ok .skip { w with heap := w.heap.setIfInBounds (E.b r) (.map ents' clock') } → EffOk P N outs E s a w o (s.upd r (.map es')) (.c .dead) := by
    intro ents' clock' hl' hcs' hrun
    have hnew : ({ w with heap := w.heap.setIfInBounds (E.b r) (.map ents' clock') } : World).heap[E.b r]? = some (.map ents' clock') := by simp [hlt]
    have hold : ∀ k, k ≠ E.b r → ({ w with heap := w.heap.setIfInBounds (E.b r) (.map ents' clock') } : World).heap[k]? = w.heap[k]? := fun k hk => by simp [Array.getElem?_setIfInBounds_ne (Ne.symm hk)]
    obtain ⟨h1, h2⟩ := rel_upd hr (w' := { w with heap := w.heap.setIfInBounds (E.b r) (.map ents' clock') }) hg (o' := .map es') (by simp) (by simp) (vn := E.v r) (st' := E.st) (by simp) (fun k hk hne => hold k (fun e => hne (by rw [e]; rfl)))
      (fun b x hs => World.cell?_of_block (hold b (fun e => hns x (by rw [← e]; exact hs)))) (fun _ _ h => h) (fun _ _ h => .inl h) (fun k hk => .inl hk) (fun _ _ _ he => by cases he)
      (fun hle => ⟨ents', clock', hnew, hl', fun j q x hj => by obtain ⟨en, h1, h2, h3, h4⟩ := hcs' j q x hj; exact ⟨en, h1, h2, h3, h4.le hle⟩⟩)
    exact ⟨undef, _, _, .inr ⟨hrun, rfl⟩, h1, h2, ⟨trivial, fun h => absurd rfl h⟩, ⟨rfl, rfl, rfl, by simp, fun k hk hno => hold k (blk_mine hr hg rfl hk hno)⟩, fun _ _ h => .inl h⟩
  rcases putK_sound (ents := ents.toList) (i0 := 0) he (by simpa using hl) (fun j q x hj => by obtain ⟨en, h1, h2, _⟩ := hcs j q x hj; exact ⟨en, by simpa using h1, h2⟩) with ⟨hf, hes⟩ | ⟨n, v, hf, hn, hes, en, hen, hek⟩
  · refine fin (ents.push { key := kv, val := a.eval y, born := clock }) (clock + 1) ⟨by simp [hes, hl], by simp [hclk], fun j en hj => by
      rw [Array.getElem?_push] at hj
      split at hj
      · cases hj; rw [hclk]; exact Eq.symm ‹_›
      · exact hbrn j en hj⟩ (fun j q x hj => ?_) ?_
    · rw [hes] at hj
      rcases Nat.lt_or_ge j es.length with h | h
      · rw [List.getElem?_append_left h] at hj
        obtain ⟨en, h1, h2⟩ := hcs j q x hj
        exact ⟨en, by rw [Array.getElem?_push, if_neg (by omega)]; exact h1, h2⟩
      · have hj0 := (List.getElem?_eq_some_iff.1 hj).1
        simp at hj0
        have : j = es.length := by omega
        subst this
        simp at hj
        obtain ⟨rfl, rfl⟩ := hj
        exact ⟨_, by rw [Array.getElem?_push, if_pos (by omega)], rfl, hy1, hyR.1⟩
    · exact mapUpdate_run (P := P) (o := o) hU hdk hkv ho (ev_mp hr hx).2 hb (q := none) hf (fun n v h => by cases h)
  · have hnl : n < ents.size := by omega
    refine fin (ents.modify n fun en => { en with key := kv, val := a.eval y }) clock ⟨by simp [hes, hl], by simp [hclk], fun j en' hj => by
      rw [Array.getElem?_modify] at hj
      split at hj
      · obtain ⟨e0, he0, rfl⟩ := Option.map_eq_some_iff.1 hj
        exact hbrn j e0 he0
      · exact hbrn j en' hj⟩ (fun j q x hj => ?_) ?_
    · rw [hes, List.getElem?_set] at hj
      rw [Array.getElem?_modify]
      by_cases e : n = j
      · subst e
        rw [if_pos rfl] at hj ⊢
        rw [if_pos hn] at hj
        cases hj
        rw [Array.getElem?_eq_getElem hnl]
        exact ⟨_, rfl, rfl, hy1, hyR.1⟩
      · rw [if_neg e] at hj ⊢
        exact hcs j q x hj
    · have := mapUpdate_run (P := P) (o := o) hU hdk hkv ho (ev_mp hr hx).2 hb (q := some (0 + n, v)) hf (fun m v' h => by
        cases h
        exact ⟨en, by simpa using hen, hek⟩)
      simpa [mapAfter] using this
end
end Go.Vx
namespace Go.Vx
open Go Go.RowKit
section
variable {P : Program} {ti : TI} {N : Nat} {outs : Nat → Prop} {E E' : Env} {s : S} {a : Act} {w w' : World} {ob ob' : Ref → Option Ob}

theorem isNil_sound {c : C} {u : Value} {b : Bool} (h : c.isNil = some b) (hu : Rc w E ob c u) : (b = true ∧ u = .slice none 0 0) ∨ (b = false ∧ ∃ A n m, u = .slice (some A) n m) := by
  have key : ∀ {n : Nat} {sz : Nat} {r : List D} {rs : List (List D)} {u : Value}, (∀ q ∈ r :: rs, q.length = sz → True) → Rp w E.st n (.rows sz (r :: rs)) u → ((∃ x, r[0]? = some x) → ∃ A n m, u = .slice (some A) n m) := by
    intro n sz r rs u _ hp ⟨x, hx⟩
    cases n with
    | zero => exact hp.elim
    | succ n =>
      obtain ⟨A, c, hu, _, _, hc⟩ := hp
      obtain ⟨b, o, y, hA, _⟩ := hc 0 r rfl 0 x hx
      exact ⟨_, _, _, by rw [hu, hA]⟩
  unfold C.isNil at h
  split at h
  · cases h
    obtain ⟨n, hn⟩ := hu
    exact .inl ⟨rfl, by cases n <;> exact hn⟩
  · cases h
    obtain ⟨n, hn⟩ := hu
    obtain ⟨A, c, hu⟩ : ∃ A c, u = .slice (some A) 0 c := by cases n <;> exact hn
    exact .inr ⟨rfl, _, _, _, hu⟩
  · cases h
    obtain ⟨n, hn⟩ := hu
    exact .inr ⟨rfl, key (fun _ _ _ => trivial) hn ⟨_, rfl⟩⟩
  · cases h
    obtain ⟨⟨n, hn⟩, _⟩ := hu
    exact .inr ⟨rfl, key (fun _ _ _ => trivial) hn ⟨_, rfl⟩⟩
  · cases h
    obtain ⟨_, c, _, _, hu⟩ := hu
    exact .inr ⟨rfl, _, _, _, hu⟩
  · cases h
theorem nil_run {o : Oper} {x y : Operand} {t ty e : TypeId} {op : BinOp} (ho : o.op = .binOp op t x y ty) (hop : op = .eql ∨ op = .neq) (hk : P.underlying t = some (.slice e)) (hy : a.eval y = .slice none 0 0) {b : Bool}
    (hx : (b = true ∧ a.eval x = .slice none 0 0) ∨ (b = false ∧ ∃ A n m, a.eval x = .slice (some A) n m)) :
    (execOp a.eval o).run P w = .ok (.value (.bool (if op = .eql then b else !b))) w := by
  have hq : ∀ v, (b = true ∧ v = Value.slice none 0 0) ∨ (b = false ∧ ∃ A n m, v = Value.slice (some A) n m) → (Op.equal t v (.slice none 0 0)).run P w = .ok b w := by
    intro v hv
    unfold Op.equal
    show (Op.equalIn (9999 + 1) t _ _).run P w = _
    generalize 9999 = n
    rcases hv with ⟨rfl, rfl⟩ | ⟨rfl, A, n, m, rfl⟩ <;> simp [Op.equalIn, run_underlying hk]
  obtain ⟨dst, op', type, pos, after, guard⟩ := o
  cases ho
  rcases hop with rfl | rfl <;> simp [execOp, hy, eqGuard, binOp, hq _ hx]
theorem nil_eql (hti : TIok P ti) (hr : Rel N outs E s a w) {o : Oper} {x y : Operand} {t ty e : TypeId} {c : C} {b : Bool} (ho : o.op = .binOp .eql t x y ty) (hk : kdOf ti t = some (.slice e)) (hx : s.ev x = some (.c c)) (hy : s.ev y = some (.c (.d .nl))) (hb : c.isNil = some b) :
    ValOk P E s a w o (.b b) := by
  have hyu : a.eval y = .slice none 0 0 := by
    obtain ⟨⟨n, hn⟩, -⟩ := ev_sound hr hy
    cases n <;> exact hn
  exact ⟨_, nil_run ho (.inl rfl) (kd_of hti hk) hyu (isNil_sound hb (ev_sound hr hx).1), Rv.m rfl⟩
theorem nil_neq (hti : TIok P ti) (hr : Rel N outs E s a w) {o : Oper} {x y : Operand} {t ty e : TypeId} {c : C} {b : Bool} (ho : o.op = .binOp .neq t x y ty) (hk : kdOf ti t = some (.slice e)) (hx : s.ev x = some (.c c)) (hy : s.ev y = some (.c (.d .nl))) (hb : c.isNil = some b) :
    ValOk P E s a w o (.b !b) := by
  have hyu : a.eval y = .slice none 0 0 := by
    obtain ⟨⟨n, hn⟩, -⟩ := ev_sound hr hy
    cases n <;> exact hn
  exact ⟨_, nil_run ho (.inr rfl) (kd_of hti hk) hyu (isNil_sound hb (ev_sound hr hx).1), Rv.m rfl⟩
theorem range_e (hti : TIok P ti) (hr : Rel N outs E s a w) {i0 : Nat} (hi : Free s i0) {o : Oper} {x : Operand} {t : TypeId} {str : ByteArray} (ho : o.op = .range t x) (hk : kdOf ti t = some .string) (hx : s.ev x = some (.s str)) :
    EffOk P N outs E s a w o (s.pushAt i0 (.iter str 0)) (.c (.ptr (Ref.loc i0) 0)) := by
  have hrun : (execOp a.eval o).run P w = .ok (.value (.pointer (some ⟨w.heap.size, 0, none⟩))) (w.alloc (.stringIter str 0)) := by
    obtain ⟨dst, op', type, pos, after, guard⟩ := o
    cases ho
    simp [execOp, Instr.range, (ev_m hr hx).1, run_underlying (kd_of hti hk)]
  have hno : ∀ x, ¬ E.st w.heap.size x := fun x h => absurd (cell_lt (hr.has _ x h)) (by omega)
  obtain ⟨h1, h2⟩ := rel_push hr hi (o := .iter str 0) (ob0 := .stringIter str 0) (w' := w.alloc (.stringIter str 0)) (bn := w.heap.size) (vn := undef) (st' := E.st) rfl (fun b x h => .inl h) (fun b x h => h)
    (fun x h => absurd h (hno x)) (fun k hk => by simpa [blk] using hk.symm) (fun hle => ⟨by show (w.alloc _).heap[upd E.b (Ref.loc i0) w.heap.size (Ref.loc i0)]? = _; rw [upd_self]; exact heap_new _ _, fun x => by
      show ¬ E.st (upd E.b (Ref.loc i0) w.heap.size (Ref.loc i0)) x
      rw [upd_self]; exact hno x⟩)
  exact ⟨_, _, _, .inl hrun, h1, h2, ⟨⟨⟨_, get_push_new hi _, by simp⟩, by simp⟩, fun _ => rfl⟩, fr_alloc hr.low _, fun b x h => .inl h⟩
theorem iter_obj (hr : Rel N outs E s a w) {r : Ref} {str : ByteArray} {pos : Nat} (hg : s.get r = some (.iter str pos)) : (getObj (E.b r)).run P w = .ok (.stringIter str pos) w := by
  have := (hr.objs r _ hg).1
  simp [getObj, Sem.run, this]
theorem next_e (hr : Rel N outs E s a w) {o : Oper} {x : Operand} {r : Ref} {str : ByteArray} {pos : Nat} (ho : o.op = .next x true) (hx : s.ev x = some (.c (.ptr r 0))) (hg : s.get r = some (.iter str pos)) (hp : pos < str.size) :
    EffOk P N outs E s a w o (s.upd r (.iter str (pos + (Utf8.decode str pos).2))) (.tup [.b true, .i pos, .m (.int .i32 (Utf8.decode str pos).1)]) := by
  have hb := (hr.objs r _ hg)
  have hlt : E.b r < w.heap.size := (Array.getElem?_eq_some_iff.1 hb.1).1
  obtain ⟨w', hw'⟩ : ∃ w' : World, w' = { w with heap := w.heap.setIfInBounds (E.b r) (.stringIter str (pos + (Utf8.decode str pos).2)) } := ⟨_, rfl⟩
  have hset : (setObj (E.b r) (.stringIter str (pos + (Utf8.decode str pos).2))).run P w = .ok () w' := by rw [hw']; simp [setObj, Sem.run, hb.1]
  have hrun : (execOp a.eval o).run P w = .ok (.value (.tuple #[.bool true, goInt pos, .int .i32 (Utf8.decode str pos).1])) w' := by
    obtain ⟨dst, op', type, pos', after, guard⟩ := o
    cases ho
    simp [execOp, Instr.next, (ev_ptr hr hx).2, iter_obj hr hg, hp, hset]
  have hnew : w'.heap[E.b r]? = some (.stringIter str (pos + (Utf8.decode str pos).2)) := by rw [hw']; simp [hlt]
  have hold : ∀ k, k ≠ E.b r → w'.heap[k]? = w.heap[k]? := fun k hk => by rw [hw']; simp [Array.getElem?_setIfInBounds_ne (Ne.symm hk)]
  have hsz : w'.heap.size = w.heap.size := by rw [hw']; simp
  obtain ⟨h1, h2⟩ := rel_upd hr (w' := w') hg (o' := .iter str (pos + (Utf8.decode str pos).2)) (by simp) (by simp) (vn := E.v r) (st' := E.st) (by omega) (fun k hk hne => hold k (fun e => hne (by rw [e]; rfl)))
    (fun b x hs => World.cell?_of_block (hold b (fun e => hb.2 x (by rw [← e]; exact hs)))) (fun _ _ h => h) (fun _ _ h => .inl h) (fun k hk => .inl hk) (fun _ _ _ he => by cases he) (fun hle => ⟨hnew, hb.2⟩)
  refine ⟨_, _, _, .inl hrun, h1, h2, ⟨[.bool true, goInt pos, .int .i32 (Utf8.decode str pos).1], rfl, rfl, fun j z hz => ?_⟩, ⟨by rw [hw'], by rw [hw'], by rw [hw'], by omega, fun k hk hno => hold k (blk_mine hr hg rfl hk hno)⟩, fun _ _ h => .inl h⟩
  match j, hz with
  | 0, hz => cases hz; exact ⟨_, rfl, ⟨0, rfl, rfl⟩, fun _ => rfl⟩
  | 1, hz => cases hz; exact ⟨_, rfl, ⟨0, rfl, rfl⟩, fun _ => rfl⟩
  | 2, hz => cases hz; exact ⟨_, rfl, ⟨0, rfl, rfl⟩, fun _ => rfl⟩
theorem next_over (hr : Rel N outs E s a w) {o : Oper} {x : Operand} {r : Ref} {str : ByteArray} {pos : Nat} (ho : o.op = .next x true) (hx : s.ev x = some (.c (.ptr r 0))) (hg : s.get r = some (.iter str pos)) (hp : ¬ pos < str.size) :
    ValOk P E s a w o (.tup [.b false]) := by
  refine ⟨.tuple #[.bool false], ?_, [.bool false], rfl, rfl, fun j z hz => ?_⟩
  · obtain ⟨dst, op', type, pos', after, guard⟩ := o
    cases ho
    simp [execOp, Instr.next, (ev_ptr hr hx).2, iter_obj hr hg, hp]
  · match j, hz with
    | 0, hz => cases hz; exact ⟨_, rfl, ⟨0, rfl, rfl⟩, fun _ => rfl⟩
end
end Go.Vx
namespace Go.Vx
open Go Go.RowKit
section
variable {P : Program} {ti : TI} {N : Nat} {outs : Nat → Prop} {E E' : Env} {s : S} {a : Act} {w w' : World} {ob ob' : Ref → Option Ob} {st : Nat → Nat → Prop}

theorem append_run2 {o : Oper} {x y : Operand} {t t' : TypeId} (ho : o.op = .call { callee := .builtin .append, args := #[x, y], argTypes := #[t, t'] }) {v : Value}
    (h : (Builtin.append_ #[t, t'] o.type #[a.eval x, a.eval y]).run P w = .ok v w') : (execOp a.eval o).run P w = .ok (.value v) w' := by
  obtain ⟨dst, op', type, pos, after, guard⟩ := o
  cases ho
  simp only [] at h
  simp [execOp, resolve, invoke, builtin, h]
theorem flat_one (l : List D) : (l.map fun x => [x]).flatten = l := by
  induction l with
  | nil => rfl
  | cons x l ih => simp [ih]
theorem strRows_sound (b : ByteArray) {z : Nat} (hz : z = 1) : (∀ q ∈ strRows b, q.length = z) ∧ Pd w st (strRows b).flatten (Lib.strCells b) ∧ (Lib.strCells b).length = (strRows b).length * z ∧ (strRows b).length = b.size := by
  have hf : (strRows b).flatten = b.data.toList.map fun x => D.m (.int .u8 x.toNat) := by
    have : strRows b = (b.data.toList.map fun x => D.m (.int .u8 x.toNat)).map fun x => [x] := by simp [strRows]
    rw [this, flat_one]
  have hl : (strRows b).length = b.size := by simp [strRows]
  refine ⟨fun q hq => ?_, ⟨?_, 0, fun j x hx => ?_⟩, by rw [Lib.strCells_length, hl, hz, Nat.mul_one], hl⟩
  · unfold strRows at hq
    obtain ⟨x, _, rfl⟩ := List.mem_map.1 hq
    rw [hz]; rfl
  · rw [hf]; simp [Lib.strCells]
  · rw [hf, List.getElem?_map] at hx
    obtain ⟨y, hy, rfl⟩ := Option.map_eq_some_iff.1 hx
    exact ⟨_, by simp only [Lib.strCells, List.getElem?_map, hy, Option.map_some], rfl, rfl⟩
theorem appendS_zero {t t' ty e : TypeId} {i : TypeInfo} (ht : P.underlying t = some (.slice e)) (hu : P.underlying t' = some .string) (hi : P.info? e = some i) {A : Option Addr} {n c : Nat} {b : ByteArray} (hn : n ≤ c) (hb : b.size = 0) (h1 : i.size = 1) :
    (Builtin.append_ #[t, t'] ty #[.slice A n c, .string b]).run P w = .ok (.slice A n c) w := by
  have hd : b.data = #[] := Array.eq_empty_of_size_eq_zero hb
  cases A <;> simp [Builtin.append_, run_underlying ht, run_underlying hu, sizeOf, typeInfo, hi, Builtin.lenOf, Builtin.firstCells, hb, hn, storeCells, hd]
theorem appendS_v0 (hti : TIok P ti) (hr : Rel N outs E s a w) {o : Oper} {x y : Operand} {t t' e : TypeId} {r : TRow} {vx : V} {b : ByteArray} (ho : o.op = .call { callee := .builtin .append, args := #[x, y], argTypes := #[t, t'] }) (hst : kdOf ti t' = some .string)
    (hk : kdOf ti t = some (.slice e)) (hre : ti e = some r) (hz : r.size = 1) (hx : s.ev x = some vx) (hy : s.ev y = some (.s b)) (hb : b.size = 0) (hvx : vx = .c (.d .nl) ∨ ∃ q sz rs, vx = .c (.tk q sz rs)) : ValOk P E s a w o vx := by
  obtain ⟨i, hi, hs', _⟩ := info_of hti hre
  refine ⟨a.eval x, ?_, ev_sound hr hx⟩
  have hxu : ∃ A n c', a.eval x = .slice A n c' ∧ n ≤ c' := by
    rcases hvx with rfl | ⟨q, sz, rs, rfl⟩
    · obtain ⟨⟨n, hn⟩, -⟩ := ev_sound hr hx
      exact ⟨none, 0, 0, by cases n <;> exact hn, Nat.le_refl _⟩
    · obtain ⟨⟨⟨n, hn⟩, _⟩, -⟩ := ev_sound hr hx
      obtain ⟨A, c', h, h1, _⟩ := hn.up (show n ≤ n + 1 by omega)
      exact ⟨A, _, c', h, h1.1⟩
  obtain ⟨A, n, c', hA, hle⟩ := hxu
  refine append_run2 ho ?_
  rw [hA, (ev_m hr hy).1]
  exact appendS_zero (kd_of hti hk) (kd_of hti hst) hi hle hb (by rw [hs', hz])
theorem appendS_new (hti : TIok P ti) (hr : Rel N outs E s a w) {i0 : Nat} (hi0 : Free s i0) {o : Oper} {x y : Operand} {t t' e : TypeId} {r : TRow} {b : ByteArray} (ho : o.op = .call { callee := .builtin .append, args := #[x, y], argTypes := #[t, t'] }) (hst : kdOf ti t' = some .string)
    (hk : kdOf ti t = some (.slice e)) (hre : ti e = some r) (hx : s.ev x = some (.c (.d .nl))) (hy : s.ev y = some (.s b)) (hz : r.size = 1) (hne : b.size ≠ 0) (hfit : fits r b.size) :
    EffOk P N outs E s a w o (s.pushAt i0 (.tok e r.size b.size)) (.c (.tk (Ref.loc i0) r.size (strRows b))) := by
  obtain ⟨i, z, hi, hzr, hpt⟩ := zero_pt (w := w) (E := E) (ob := s.get) hti hre
  obtain ⟨i', hi', hs', hb'⟩ := info_of hti hre
  rw [hi] at hi'
  cases hi'
  have hzs : z.cells.size = r.size := by obtain ⟨_, h, _, _, z', h', h2, _⟩ := (hti e r hre).info; rw [hi] at h; cases h; rw [hzr] at h'; cases h'; exact h2
  have hxu : a.eval x = .slice none 0 0 := by
    obtain ⟨⟨n, hn⟩, -⟩ := ev_sound hr hx
    cases n <;> exact hn
  have hyu := (ev_m hr hy).1
  obtain ⟨hs, hpd, hul, hnl⟩ := strRows_sound (w := w) (st := E.st) b hz
  obtain ⟨us, hus⟩ : ∃ us, us = Lib.strCells b := ⟨_, rfl⟩
  rw [← hus] at hpd hul
  obtain ⟨ns, hns⟩ : ∃ ns, ns = strRows b := ⟨_, rfl⟩
  rw [← hns] at hs hpd hul hnl ⊢
  rw [← hnl] at hne hfit ⊢
  have hf1 : ns.length * i.bytes ≤ 140737488355328 := by rw [hb']; exact hfit.1
  have hrun := run_append_nil_string (P := P) w t t' o.type e i z (kd_of hti hk) (kd_of hti hst) hi hzr b (by omega) (by have := hfit.2; omega) (by rw [← hnl]; omega)
  rw [← hnl, show b.data.map (fun b => Value.int .u8 b.toNat) = us.toArray by rw [hus]; exact Array.toList_inj.1 (by simp [Lib.strCells])] at hrun
  have hge := grownCap_ge w ns.length 0 e
  have hcm : grownCap w ns.length 0 e ≤ maxLen := grownCap_le_maxLen w _ 0 e (by have := hfit.2; simp only [maxLen]; omega)
  refine new_tok hr hi0 (us := us) (cap := grownCap w ns.length 0 e) (cur := us.toArray ++ Builtin.zeroCells z.cells (grownCap w ns.length 0 e - ns.length)) hs hul hpd ?_ hge hcm (fun k v hk => ?_) (.inr rfl) (append_run2 ho (by rw [hxu, hyu]; exact hrun))
  · simp only [Array.size_append, List.size_toArray, size_zeroCells, hzs, hul, ← Nat.add_mul]
    congr 1
    omega
  · have hlt := (List.getElem?_eq_some_iff.1 hk).1
    rw [Array.getElem?_append_left (by simpa using hlt)]
    simpa using hk
theorem appendS_tok (hti : TIok P ti) (hr : Rel N outs E s a w) {o : Oper} {x y : Operand} {t t' e : TypeId} {r : TRow} {b : ByteArray} {q : Ref} {rs : List (List D)} (ho : o.op = .call { callee := .builtin .append, args := #[x, y], argTypes := #[t, t'] }) (hst : kdOf ti t' = some .string)
    (hk : kdOf ti t = some (.slice e)) (hre : ti e = some r) (hx : s.ev x = some (.c (.tk q r.size rs))) (hq : s.get q = some (.tok e r.size rs.length)) (hy : s.ev y = some (.s b)) (hz : r.size = 1) (hne : b.size ≠ 0)
    (hfit : fits r (rs.length + b.size)) :
    EffOk P N outs E s a w o (s.upd q (.tok e r.size (rs.length + b.size))) (.c (.tk q r.size (rs ++ strRows b))) := by
  obtain ⟨i, z, hi, hzr, hpt⟩ := zero_pt (w := w) (E := E) (ob := s.get) hti hre
  obtain ⟨i', hi', hs', hb'⟩ := info_of hti hre
  rw [hi] at hi'
  cases hi'
  have hzs : z.cells.size = r.size := by obtain ⟨_, h, _, _, z', h', h2, _⟩ := (hti e r hre).info; rw [hi] at h; cases h; rw [hzr] at h'; cases h'; exact h2
  obtain ⟨⟨⟨n, hn⟩, hlv, hperm⟩, -⟩ := ev_sound hr hx
  have hxu : a.eval x = E.v q := (hperm _ _ _ hq).2.2 rfl
  obtain ⟨g, cap, cur, hv, hg, hnc, hcm, hcs, hsg⟩ := hr.objs q _ hq
  have hn1 := hn.up (show n ≤ n + 1 by omega)
  rw [hxu, hv] at hn1
  have hrsz : ∀ x ∈ rs, x.length = r.size := by obtain ⟨_, _, _, _, h, _⟩ := hn1; exact h
  obtain ⟨us0, hpd0, hul0, hc0⟩ := rows_cells hn1
  have hpre0 : ∀ (k : Nat) (v : Value), us0[k]? = some v → cur[k]? = some v := by
    intro k v hkv
    have hne0 : us0 ≠ [] := fun h => by rw [h] at hkv; simp at hkv
    obtain ⟨ad, had, hcell⟩ := hc0 hne0
    cases had
    have := hcell k v hkv
    rw [add_none] at this
    simpa [World.cell?, hg] using this
  have hyu := (ev_m hr hy).1
  obtain ⟨hs, hpd, hul, hnl⟩ := strRows_sound (w := w) (st := E.st) b hz
  obtain ⟨us, hus⟩ : ∃ us, us = Lib.strCells b := ⟨_, rfl⟩
  rw [← hus] at hpd hul
  obtain ⟨ns, hns⟩ : ∃ ns, ns = strRows b := ⟨_, rfl⟩
  rw [← hns] at hs hpd hul hnl ⊢
  rw [← hnl] at hne hfit ⊢
  have hf1 : (rs.length + ns.length) * i.bytes ≤ 140737488355328 := by rw [hb']; exact hfit.1
  have hall : ∀ x ∈ rs ++ ns, x.length = r.size := fun x hx => by
    rcases List.mem_append.1 hx with h | h
    · exact hrsz x h
    · exact hs x h
  have hlen : (rs ++ ns).length = rs.length + ns.length := List.length_append
  have hgl : g < w.heap.size := (Array.getElem?_eq_some_iff.1 hg).1
  have hbq : blk E q (.tok e r.size rs.length) = some g := by simp [blk, hv, Value.ownBlock]
  by_cases hroom : rs.length + ns.length ≤ cap
  · -- the row has room
    have hfitc : rs.length * i.size + us.length ≤ cur.size := by rw [hul, hs', hcs, ← Nat.add_mul]; exact Nat.mul_le_mul_right _ hroom
    have hrun := Lib.run_append_room_string (P := P) w t t' o.type e i (kd_of hti hk) (kd_of hti hst) hi (by rw [hs', hz]) g rs.length cap cur hg b (by rw [← hnl]; exact hroom) (by rw [← hnl]; rw [hul, hz, hs', hz] at hfitc; omega)
    rw [hs'] at hfitc
    rw [← hus, ← hnl] at hrun
    have e1 : rs.length * r.size = rs.length := by rw [hz, Nat.mul_one]
    have e2 : rs.length * r.size + us.length = rs.length + ns.length := by rw [e1, hul, hz, Nat.mul_one]
    replace hrun : (Builtin.append_ #[t, t'] o.type #[.slice (some ⟨g, 0, none⟩) rs.length cap, .string b]).run P w = .ok (.slice (some ⟨g, 0, none⟩) (rs.length + ns.length) cap) (w.setRow g (cur.toList.take (rs.length * r.size) ++ us ++ cur.toList.drop (rs.length * r.size + us.length)).toArray) := by
      rw [e2, e1]; exact hrun
    obtain ⟨cur', hcur'⟩ : ∃ cur', cur' = (cur.toList.take (rs.length * r.size) ++ us ++ cur.toList.drop (rs.length * r.size + us.length)).toArray := ⟨_, rfl⟩
    rw [← hcur'] at hrun
    have hput : cur'.toList = putAt cur.toList (rs.length * r.size) us := by rw [hcur']; rfl
    have hget : ∀ k : Nat, cur'[k]? = if rs.length * r.size ≤ k ∧ k < rs.length * r.size + us.length then us[k - rs.length * r.size]? else cur[k]? := by
      intro k
      have := putAt_get cur.toList us (rs.length * r.size) (by simpa using hfitc) k
      rw [← hput] at this
      simpa using this
    have hcsz : cur'.size = cur.size := by
      have := putAt_length cur.toList us (rs.length * r.size) (by simpa using hfitc)
      rw [← hput] at this
      simpa using this
    have hg' : (w.setRow g cur').heap[g]? = some (.cells cur' e (0, 0)) := setRow_heap w g cur cur' e _ hg
    have hold : ∀ k, k ≠ g → (w.setRow g cur').heap[k]? = w.heap[k]? := fun k hk => setRow_other w g k cur' hk
    have hcell : ∀ b x, E.st b x → (w.setRow g cur').cell? ⟨b, x, none⟩ = w.cell? ⟨b, x, none⟩ := by
      intro b x hb
      by_cases e1 : b = g
      · subst e1
        have hlt := hsg x hb
        simp only [World.cell?, hg', hg, Option.isSome_none, Bool.false_eq_true, if_false]
        rw [hget x, if_neg (by omega)]
      · exact World.cell?_of_block (hold b e1)
    obtain ⟨h1, h2⟩ := rel_upd hr (w' := w.setRow g cur') hq (o' := .tok e r.size (rs.length + ns.length)) (by simp) (by simp) (vn := .slice (some ⟨g, 0, none⟩) (rs.length + ns.length) cap) (st' := fun b x => E.st b x ∨ (b = g ∧ x < (rs.length + ns.length) * r.size))
      (by simp [World.setRow]) (fun k hk hne => hold k (fun e1 => hne (by rw [hbq, e1]))) hcell (fun b x h => .inl h) (fun b x h => by
        rcases h with h | ⟨rfl, h⟩
        · exact .inl h
        · refine .inr ⟨by simp [blk, Value.ownBlock], ?_⟩
          have : x < cur'.size := by rw [hcsz, hcs]; exact Nat.lt_of_lt_of_le h (Nat.mul_le_mul_right _ hroom)
          simp [World.cell?, hg', this])
      (fun k hk => .inl (by rw [hbq]; simpa [blk, Value.ownBlock] using hk)) (fun e1 sz1 n1 he => by cases he; exact ⟨_, rfl, by omega, fun h => absurd h (by omega)⟩)
      (fun hle => ⟨g, cap, cur', by simp, hg', hroom, hcm, by rw [hcsz, hcs], fun x h => by
        rcases h with h | ⟨_, h⟩
        · exact Nat.lt_of_lt_of_le (hsg x h) (Nat.mul_le_mul_right _ (by omega))
        · exact h⟩)
    obtain ⟨m, hR⟩ := rows_at (w := w.setRow g cur') (st := fun b x => E.st b x ∨ (b = g ∧ x < (rs.length + ns.length) * r.size)) (rs := rs ++ ns) (us := us0 ++ us) (cap := cap) hg' hall
      (by rw [List.flatten_append]; exact (hpd0.append hpd).le (fun b x h => .inl h) hcell) (fun k v hkv => by
        rw [hget k]
        rcases Nat.lt_or_ge k us0.length with h | h
        · rw [List.getElem?_append_left h] at hkv
          rw [if_neg (by omega)]
          exact hpre0 k v hkv
        · rw [List.getElem?_append_right h] at hkv
          have := (List.getElem?_eq_some_iff.1 hkv).1
          rw [if_pos (by omega), ← hul0]
          exact hkv) (fun x hx => .inr ⟨rfl, by rwa [hlen] at hx⟩) (by rw [hlen]; exact hroom) (by rw [hlen]; have := hfit.2; simp only [maxLen]; omega)
    rw [hlen] at hR
    refine ⟨_, _, _, .inl (append_run2 ho (by rw [hxu, hv, hyu]; exact hrun)), h1, h2, ⟨⟨⟨_, by rw [← hlen] at hR ⊢; exact hR⟩, ⟨_, by rw [get_upd hq, if_pos rfl], by simp⟩, fun e' sz' n' he => ?_⟩, fun _ => rfl⟩, ⟨rfl, rfl, rfl, by simp [World.setRow], fun k hk hno => hold k (blk_mine hr hq hbq hk hno)⟩, fun b x h => h.imp id fun h => by rw [h.1]; exact hr.mine q _ g hq hbq⟩
    rw [get_upd hq, if_pos rfl] at he
    injection he with he
    injection he with e1 e2 e3
    exact ⟨e2.symm, by rw [hlen]; omega, fun _ => by simp⟩
  · -- a new row
    have hrun := Lib.run_append_grow_string (P := P) w t t' o.type e i z (kd_of hti hk) (kd_of hti hst) hi hzr ⟨g, 0, none⟩ rs.length cap us0 (by rw [hul0, hs']) (fun j v hj => by
      rw [add_none]
      simpa [World.cell?, hg] using hpre0 j v hj) b (by rw [← hnl]; omega) (by rw [← hnl]; have := hfit.2; omega) (by rw [← hnl]; exact growslice_fits (by omega) hf1)
    rw [← hus, ← hnl] at hrun
    have hge := grownCap_ge w (rs.length + ns.length) cap e
    have hcm' : grownCap w (rs.length + ns.length) cap e ≤ maxLen := grownCap_le_maxLen w _ cap e (by have := hfit.2; simp only [maxLen]; omega)
    obtain ⟨K, hK⟩ : ∃ K, K = grownCap w (rs.length + ns.length) cap e := ⟨_, rfl⟩
    rw [← hK] at hrun hge hcm'
    obtain ⟨cur', hcur'⟩ : ∃ cur', cur' = us0.toArray ++ us.toArray ++ Builtin.zeroCells z.cells (K - (rs.length + ns.length)) := ⟨_, rfl⟩
    rw [← hcur'] at hrun
    have hcs' : cur'.size = K * r.size := by
      rw [hcur']
      simp only [Array.size_append, List.size_toArray, size_zeroCells, hzs, hul, hul0, ← Nat.add_mul]
      congr 1
      omega
    have hg' : (w.drew.alloc (.cells cur' e)).heap[w.heap.size]? = some (.cells cur' e (0, 0)) := heap_new w _
    have hold : ∀ k, k < w.heap.size → (w.drew.alloc (.cells cur' e)).heap[k]? = w.heap[k]? := fun k hk => Below.heap_alloc w _ k hk
    have hcell : ∀ b x, E.st b x → (w.drew.alloc (.cells cur' e)).cell? ⟨b, x, none⟩ = w.cell? ⟨b, x, none⟩ := fun b x h => World.cell?_of_block (hold b (cell_lt (hr.has b x h)))
    have hno : ∀ x, ¬ E.st w.heap.size x := fun x h => absurd (cell_lt (hr.has _ x h)) (by omega)
    obtain ⟨h1, h2⟩ := rel_upd hr (w' := w.drew.alloc (.cells cur' e)) hq (o' := .tok e r.size (rs.length + ns.length)) (by simp) (by simp) (vn := .slice (some ⟨w.heap.size, 0, none⟩) (rs.length + ns.length) K) (st' := fun b x => E.st b x ∨ (b = w.heap.size ∧ x < (rs.length + ns.length) * r.size))
      (by show w.heap.size ≤ (w.heap.push _).size; simp) (fun k hk _ => hold k hk) hcell (fun b x h => .inl h) (fun b x h => by
        rcases h with h | ⟨rfl, h⟩
        · exact .inl h
        · refine .inr ⟨by simp [blk, Value.ownBlock], ?_⟩
          have : x < cur'.size := by rw [hcs']; exact Nat.lt_of_lt_of_le h (Nat.mul_le_mul_right _ hge)
          unfold World.cell?
          rw [hg']
          simp [this])
      (fun k hk => .inr (by
        have : w.heap.size = k := by simpa [blk, Value.ownBlock] using hk
        omega)) (fun e1 sz1 n1 he => by cases he; exact ⟨_, rfl, by omega, fun h => absurd h (by omega)⟩)
      (fun hle => ⟨w.heap.size, K, cur', by simp, hg', hge, hcm', hcs', fun x h => h.elim (fun h => absurd h (hno x)) (·.2)⟩)
    obtain ⟨m, hR⟩ := rows_at (w := w.drew.alloc (.cells cur' e)) (st := fun b x => E.st b x ∨ (b = w.heap.size ∧ x < (rs.length + ns.length) * r.size)) (rs := rs ++ ns) (us := us0 ++ us) (cap := K) hg' hall
      (by rw [List.flatten_append]; exact (hpd0.append hpd).le (fun b x h => .inl h) hcell) (fun k v hkv => by
        have hlt := (List.getElem?_eq_some_iff.1 hkv).1
        rw [hcur', Array.getElem?_append_left (by simpa using hlt)]
        simpa using hkv) (fun x hx => .inr ⟨rfl, by rwa [hlen] at hx⟩) (by rw [hlen]; exact hge) (by rw [hlen]; have := hfit.2; simp only [maxLen]; omega)
    rw [hlen] at hR
    refine ⟨_, _, _, .inl (append_run2 ho (by rw [hxu, hv, hyu]; exact hrun)), h1, h2, ⟨⟨⟨_, by rw [← hlen] at hR ⊢; exact hR⟩, ⟨_, by rw [get_upd hq, if_pos rfl], by simp⟩, fun e' sz' n' he => ?_⟩, fun _ => rfl⟩, fr_drew (fr_alloc hr.low _), fun b x h => h.imp id fun h => .inl (by have := hr.low; omega)⟩
    rw [get_upd hq, if_pos rfl] at he
    injection he with he
    injection he with e1 e2 e3
    exact ⟨e2.symm, by rw [hlen]; omega, fun _ => by simp⟩

/-! Addresses. -/
theorem ptr_nil (hti : TIok P ti) (hr : Rel N outs E s a w) {o : Oper} {x y : Operand} {t ty e : TypeId} {op : BinOp} {q : Ref} {off : Nat} (ho : o.op = .binOp op t x y ty) (hop : op = .eql ∨ op = .neq) (hk : kdOf ti t = some (.ptr e)) (hx : s.ev x = some (.c (.ptr q off))) (hy : s.ev y = some (.m (.pointer none))) :
    ValOk P E s a w o (.b (if op = .eql then false else true)) := by
  refine ⟨.bool (if op = .eql then false else true), ?_, Rv.m rfl⟩
  have hxu := (ev_ptr hr hx).2
  have hyu := (ev_m hr hy).1
  have hq : (Op.equal t (.pointer (some ⟨E.b q, off, none⟩)) (.pointer none)).run P w = .ok false w := by
    unfold Op.equal
    show (Op.equalIn (9999 + 1) t _ _).run P w = _
    generalize 9999 = n
    simp [Op.equalIn, run_underlying (kd_of hti hk)]
  obtain ⟨dst, op', type, pos, after, guard⟩ := o
  cases ho
  rcases hop with rfl | rfl <;> simp [execOp, hxu, hyu, eqGuard, binOp, hq]
theorem ptr_same (hti : TIok P ti) (hr : Rel N outs E s a w) {o : Oper} {x y : Operand} {t ty e : TypeId} {op : BinOp} {q : Ref} {off : Nat} (ho : o.op = .binOp op t x y ty) (hop : op = .eql ∨ op = .neq) (hk : kdOf ti t = some (.ptr e)) (he : (ti e).isSome) (hx : s.ev x = some (.c (.ptr q off))) (hy : s.ev y = some (.c (.ptr q off))) :
    ValOk P E s a w o (.b (if op = .eql then true else false)) := by
  refine ⟨.bool (if op = .eql then true else false), ?_, Rv.m rfl⟩
  have hxu := (ev_ptr hr hx).2
  have hyu := (ev_ptr hr hy).2
  obtain ⟨row, hrow⟩ := Option.isSome_iff_exists.1 he
  obtain ⟨i, hi, _⟩ := info_of hti hrow
  have hq : (Op.equal t (.pointer (some ⟨E.b q, off, none⟩)) (.pointer (some ⟨E.b q, off, none⟩))).run P w = .ok true w := by
    unfold Op.equal
    show (Op.equalIn (9999 + 1) t _ _).run P w = _
    generalize 9999 = n
    simp [Op.equalIn, run_underlying (kd_of hti hk), sizeOf, typeInfo, hi, run_sameAddr_same]
  obtain ⟨dst, op', type, pos, after, guard⟩ := o
  cases ho
  rcases hop with rfl | rfl <;> simp [execOp, hxu, hyu, eqGuard, binOp, hq]
theorem liesAt_self {e : TypeId} {count : Nat} (hc : P.cellsOf e ≠ 0) (hn : 1 ≤ count) : liesAt P P.depth e count 0 e 1 = true := by
  have hd : P.depth = (2 * (P.types.size + Made.depth) + 1) + 1 := rfl
  rw [hd]
  simp only [liesAt, Bool.or_eq_true]
  left
  rw [hd]
  simp [rowAt, hc, hn, sameLayout]
theorem conv_to (hti : TIok P ti) (hr : Rel N outs E s a w) {o : Oper} {c d : TypeId} {x : Operand} {e t : TypeId} {row : TRow} {q : Ref} {off : Nat} {cs : List C} (ho : o.op = .convert c d x) (hc : kdOf ti c = some (.ptr e)) (hd : kdOf ti d = some .uptr)
    (hx : s.ev x = some (.c (.ptr q off))) (hg : s.get q = some (.box t cs)) (he : ti e = some row) (h : row.size ≠ 0 ∧ off < cs.length) : ValOk P E s a w o (.c (.ptr q off)) := by
  refine ⟨_, ?_, ev_sound hr hx⟩
  have hxu := (ev_ptr hr hx).2
  obtain ⟨us, h1, h2, _⟩ := hr.objs q _ hg
  obtain ⟨i, hi, hs', _⟩ := info_of hti he
  have hrun := Lib.run_to_unsafe (P := P) w ⟨E.b q, off, none⟩ (kd_of hti hc) (kd_of hti hd) hi (by rw [hs']; exact h.1) (e := t) (cells := us.size) (by simp [World.shape?, h1]) (by show off < us.size; omega)
  obtain ⟨dst, op', type, pos, after, guard⟩ := o
  cases ho
  simp only [execOp, hxu]
  rw [Sem.run_bind, hrun]
  rfl
theorem conv_from (hti : TIok P ti) (hr : Rel N outs E s a w) {o : Oper} {c d : TypeId} {x : Operand} {e : TypeId} {row : TRow} {q : Ref} {cs : List C} (ho : o.op = .convert c d x) (hc : kdOf ti c = some .uptr) (hd : kdOf ti d = some (.ptr e))
    (hx : s.ev x = some (.c (.ptr q 0))) (hg : s.get q = some (.box e cs)) (he : ti e = some row) (h : row.size ≠ 0 ∧ row.size ≤ cs.length) : ValOk P E s a w o (.c (.ptr q 0)) := by
  refine ⟨_, ?_, ev_sound hr hx⟩
  have hxu := (ev_ptr hr hx).2
  obtain ⟨us, h1, h2, _⟩ := hr.objs q _ hg
  obtain ⟨i, hi, hs', _⟩ := info_of hti he
  have hcell : P.cellsOf e = row.size := by simp [Program.cellsOf, hi, hs']
  have hrun := Lib.run_from_unsafe (P := P) w ⟨E.b q, 0, none⟩ (kd_of hti hc) (kd_of hti hd) hi (e := e) (cells := us.size) (by simp [World.shape?, h1]) (by
    refine liesAt_self (by rw [hcell]; exact h.1) ?_
    rw [hcell]
    exact (Nat.le_div_iff_mul_le (Nat.pos_of_ne_zero h.1)).2 (by omega))
  obtain ⟨dst, op', type, pos, after, guard⟩ := o
  cases ho
  simp only [execOp, hxu]
  rw [Sem.run_bind, hrun]
  rfl
end
end Go.Vx
namespace Go.Vx
open Go Go.RowKit
section
variable {P : Program} {ti : TI} {N : Nat} {outs : Nat → Prop} {E E' : Env} {s : S} {a : Act} {w w' : World} {ob ob' : Ref → Option Ob}

def EffSound (P : Program) (N : Nat) (outs : Nat → Prop) (E : Env) (s : S) (a : Act) (w : World) (o : Oper) : Eff → Prop
  | .val v => ValOk P E s a w o v
  | .new b f => ∀ i0, Free s i0 → EffOk P N outs E s a w o (s.pushAt i0 b) (f (.loc i0))
  | .upd r b v => EffOk P N outs E s a w o (s.upd r b) v
  | .call f args => ∃ us : List Value, Pv w E s.get args us ∧ (execOp a.eval o).run P w = (callFunc f us.toArray).run P w
  | .pan x => ∃ u, (execOp a.eval o).run P w = .halt (.panic u) w ∧ Rc w E s.get x u
theorem Pv.append {vs vs' : List V} {us us' : List Value} (h : Pv w E ob vs us) (k : Pv w E ob vs' us') : Pv w E ob (vs ++ vs') (us ++ us') := by
  refine ⟨by simp [h.1, k.1], fun j x hx => ?_⟩
  rcases Nat.lt_or_ge j vs.length with hj | hj
  · rw [List.getElem?_append_left hj] at hx
    obtain ⟨y, hy, hp⟩ := h.2 j x hx
    exact ⟨y, by rw [List.getElem?_append_left (by rw [h.1]; exact hj)]; exact hy, hp⟩
  · rw [List.getElem?_append_right hj] at hx
    obtain ⟨y, hy, hp⟩ := k.2 _ x hx
    exact ⟨y, by rw [List.getElem?_append_right (by rw [h.1]; exact hj), h.1]; exact hy, hp⟩
theorem evList_one {l : List Operand} {v : V} (h : evList s.ev l = some [v]) : ∃ x, l = [x] ∧ s.ev x = some v := by
  cases l with
  | nil => cases h
  | cons x l =>
    simp only [evList] at h
    split at h
    case h_2 => cases h
    rename_i v' r hv hl
    cases h
    cases l with
    | nil => exact ⟨x, rfl, hv⟩
    | cons y l =>
      simp only [evList] at hl
      split at hl <;> cases hl
theorem evList_two {l : List Operand} {v u : V} (h : evList s.ev l = some [v, u]) : ∃ x y, l = [x, y] ∧ s.ev x = some v ∧ s.ev y = some u := by
  cases l with
  | nil => cases h
  | cons x l =>
    simp only [evList] at h
    split at h
    case h_2 => cases h
    rename_i v' r hv hl
    cases h
    obtain ⟨y, rfl, hy⟩ := evList_one hl
    exact ⟨x, y, rfl, hv, hy⟩
theorem toList_one {α : Type} {x : Array α} {y : α} (h : x.toList = [y]) : x = #[y] := Array.toList_inj.1 h
theorem toList_two {α : Type} {x : Array α} {y z : α} (h : x.toList = [y, z]) : x = #[y, z] := Array.toList_inj.1 h
theorem call_sound (hti : TIok P ti) (hr : Rel N outs E s a w) {o : Oper} {c : Call} {e : Eff} (ho : o.op = .call c) (h : effCall P ti s.ev s.get c = some e) : EffSound P N outs E s a w o e := by
  obtain ⟨callee, cargs, ctypes⟩ := c
  unfold effCall at h
  split at h
  · rename_i f hcl
    simp only at hcl
    subst hcl
    split at h
    case h_3 => cases h
    case h_2 =>
      rename_i g p q args hf hargs
      split at h
      case isFalse => cases h
      rename_i hpq
      cases h
      obtain ⟨hfu, -⟩ := ev_m hr hf
      have hp : p = #[] := Array.eq_empty_of_size_eq_zero hpq.1
      have hq : q = #[] := Array.eq_empty_of_size_eq_zero hpq.2
      subst hp hq
      refine ⟨cargs.toList.map a.eval, evList_sound hr hargs, ?_⟩
      obtain ⟨dst, op', type, pos, after, guard⟩ := o
      cases ho
      have e1 : (cargs.toList.map a.eval).toArray = cargs.map a.eval := by apply Array.toList_inj.1; simp
      rw [e1]
      simp [execOp, resolve, Deferred.ofValue, hfu, invoke]
    rename_i g caps args hf hargs
    cases h
    obtain ⟨⟨hcl, hfu⟩, -⟩ := ev_sound hr hf
    have hA := evList_sound hr hargs
    refine ⟨cargs.toList.map a.eval ++ caps.map (fun r => .pointer (some ⟨E.b r, 0, none⟩)), Pv.append hA ⟨by simp, fun j x hx => ?_⟩, ?_⟩
    · rw [List.getElem?_map] at hx
      obtain ⟨r, hrj, rfl⟩ := Option.map_eq_some_iff.1 hx
      exact ⟨_, by rw [List.getElem?_map, hrj]; rfl, ⟨hcl r (List.mem_of_getElem? hrj), rfl⟩, fun _ => rfl⟩
    · obtain ⟨dst, op', type, pos, after, guard⟩ := o
      cases ho
      have e1 : (cargs.toList.map a.eval ++ caps.map (fun r => Value.pointer (some ⟨E.b r, 0, none⟩))).toArray = cargs.map a.eval ++ (caps.map (fun r => Value.pointer (some ⟨E.b r, 0, none⟩))).toArray := by
        apply Array.toList_inj.1; simp
      rw [e1]
      simp [execOp, resolve, Deferred.ofValue, hfu, invoke]
  · rename_i hcl
    simp only at hcl
    subst hcl
    split at h
    case h_2 => cases h
    rename_i t vx htl hargs
    obtain ⟨x, hx, hv⟩ := evList_one hargs
    have e1 := toList_one hx
    have e2 := toList_one htl
    subst e1 e2
    split at h
    case isFalse => cases h
    rename_i hok
    have hval : ∃ v, e = .val v := by
      unfold effLen at h
      split at h
      case h_7 => split at h <;> first | (cases h; exact ⟨_, rfl⟩) | cases h
      all_goals first | (cases h; exact ⟨_, rfl⟩) | cases h
    obtain ⟨v, rfl⟩ := hval
    exact len_v hti hr ho hv hok h
  · rename_i hcl
    simp only at hcl
    subst hcl
    split at h
    case h_2 => cases h
    rename_i t t' vs vx htl hargs
    obtain ⟨x, y, hx, hv, hu⟩ := evList_two hargs
    have e1 := toList_two hx
    have e2 := toList_two htl
    subst e1 e2
    split at h
    case isFalse =>
      split at h
      case h_2 => cases h
      rename_i hst
      unfold effAppendS at h
      split at h
      case h_2 => cases h
      rename_i el hk
      split at h
      case h_2 => cases h
      rename_i r hre
      split at h
      case isFalse => cases h
      rename_i hz
      split at h
      · rename_i h0
        split at h
        · cases h; exact appendS_v0 hti hr ho hst hk hre hz hv hu h0 (.inl rfl)
        · cases h; exact appendS_v0 hti hr ho hst hk hre hz hv hu h0 (.inr ⟨_, _, _, rfl⟩)
        · cases h
      · rename_i h0
        split at h
        · split at h
          case isFalse => cases h
          rename_i hf
          cases h
          exact fun i0 hi => appendS_new hti hr hi ho hst hk hre hv hu hz h0 hf
        · split at h
          case h_2 => cases h
          rename_i hq
          split at h
          case isFalse => cases h
          rename_i hall
          obtain ⟨ha1, ha2, ha3, ha4, ha5⟩ := hall
          subst ha1 ha2 ha3 ha4
          cases h
          exact appendS_tok hti hr ho hst hk hre hv hq hu hz h0 ha5
        · cases h
    rename_i htt
    subst htt
    unfold effAppend at h
    split at h
    case h_2 => cases h
    rename_i el hk
    split at h
    · rename_i r c hre
      split at h
      case h_2 => cases h
      rename_i ns hns
      split at h
      case isFalse => cases h
      rename_i hall
      simp only [Bool.and_eq_true, List.all_eq_true, beq_iff_eq, decide_eq_true_eq] at hall
      split at h
      · rename_i h0
        cases h
        have : ns = [] := List.eq_nil_of_length_eq_zero h0
        subst this
        exact append_v0 hti hr ho hk hre hv hu hns (.inl rfl)
      · rename_i h0
        split at h
        case isFalse => cases h
        rename_i hf
        cases h
        exact fun i0 hi => append_new hti hr hi ho hk hre hv hu hns hall.1 hall.2 h0 hf
    · rename_i r q sz rs c hre
      split at h
      case h_2 => cases h
      rename_i e' sz' n ns hq hns
      split at h
      case isFalse => cases h
      rename_i hall
      simp only [Bool.and_eq_true, List.all_eq_true, beq_iff_eq, decide_eq_true_eq] at hall
      obtain ⟨⟨⟨⟨⟨ha1, ha2⟩, ha3⟩, ha4⟩, ha5⟩, ha6⟩ := hall
      subst ha3 ha4 ha5 ha6
      split at h
      · rename_i h0
        cases h
        have : ns = [] := List.eq_nil_of_length_eq_zero h0
        subst this
        exact append_v0 hti hr ho hk hre hv hu hns (.inr ⟨_, _, _, rfl⟩)
      · rename_i h0
        split at h
        case isFalse => cases h
        rename_i hf
        cases h
        exact append_tok hti hr ho hk hre hv hq hu hns ha1 ha2 h0 hf
    · cases h
  · rename_i hcl
    simp only at hcl
    subst hcl
    split at h
    case h_2 => cases h
    rename_i k p k' q hargs
    obtain ⟨x, y, hx, hv, hu⟩ := evList_two hargs
    have e1 := toList_two hx
    subst e1
    cases h
    obtain ⟨dst, op', type, pos, after, guard⟩ := o
    cases ho
    refine ⟨.int k (if q > p then q else p), ?_, Rv.m rfl⟩
    simp [execOp, resolve, invoke, builtin, Builtin.max_, Builtin.max2, (ev_m hr hv).1, (ev_m hr hu).1]
  · rename_i hcl
    simp only at hcl
    subst hcl
    split at h
    case h_2 => cases h
    rename_i k p k' q hargs
    obtain ⟨x, y, hx, hv, hu⟩ := evList_two hargs
    have e1 := toList_two hx
    subst e1
    cases h
    obtain ⟨dst, op', type, pos, after, guard⟩ := o
    cases ho
    refine ⟨.int k (if q < p then q else p), ?_, Rv.m rfl⟩
    simp [execOp, resolve, invoke, builtin, Builtin.min_, Builtin.min2, (ev_m hr hv).1, (ev_m hr hu).1]
  · cases h
theorem eff_sound (hti : TIok P ti) (hr : Rel N outs E s a w) {o : Oper} {e : Eff} (h : eff P ti s.ev s.get o.op = some e) : EffSound P N outs E s a w o e := by
  cases hop : o.op with
  | move x =>
    rw [hop] at h
    obtain ⟨v, hv, rfl⟩ := Option.map_eq_some_iff.1 h
    exact move_v hr (.inl hop) h
  | assign x =>
    rw [hop] at h
    obtain ⟨v, hv, rfl⟩ := Option.map_eq_some_iff.1 h
    exact move_v hr (.inr hop) h
  | pick c x y =>
    rw [hop] at h
    have h0 := h
    simp only [eff] at h
    split at h
    case h_2 => cases h
    cases h
    exact pick_v hr hop h0
  | alloc t =>
    rw [hop] at h
    obtain ⟨r, hr', rfl⟩ := Option.map_eq_some_iff.1 h
    exact fun i0 hi => alloc_e hti hr hi hop hr'
  | box t x =>
    rw [hop] at h
    simp only [eff] at h
    split at h
    case h_2 => cases h
    rename_i v hv
    obtain ⟨cs, hcs, rfl⟩ := Option.map_eq_some_iff.1 h
    exact fun i0 hi => box_e hr hi hop hv hcs
  | build t parts =>
    rw [hop] at h
    have h0 := h
    simp only [eff] at h
    split at h
    case h_2 => cases h
    split at h
    case h_2 => cases h
    obtain ⟨cs, hcs, rfl⟩ := Option.map_eq_some_iff.1 h
    exact build_v hti hr hop h0
  | buildSlice t n parts =>
    rw [hop] at h
    simp only [eff] at h
    split at h
    case h_2 => cases h
    rename_i e ps hk hps
    split at h
    case h_2 => cases h
    rename_i r hre
    split at h
    case isFalse => cases h
    rename_i h0
    split at h
    case h_2 => cases h
    rename_i cs hcs
    split at h
    case h_2 => cases h
    rename_i ds hds
    cases h
    exact fun i0 hi => buildSlice_e hti hr hi hop hk hps hre h0 hcs hds
  | load t x =>
    rw [hop] at h
    have h0 := h
    simp only [eff] at h
    split at h
    · split at h
      · obtain ⟨cs, hcs, rfl⟩ := Option.map_eq_some_iff.1 h
        exact load_v hti hr hop h0
      · cases h
    · obtain ⟨cs, hcs, rfl⟩ := Option.map_eq_some_iff.1 h
      exact load_v hti hr hop h0
    · cases h
  | store t x y =>
    rw [hop] at h
    simp only [eff] at h
    split at h
    case h_2 => cases h
    rename_i r off v row hx hy ht
    split at h
    case h_2 => cases h
    rename_i e cs ns hg hv
    split at h
    case isFalse => cases h
    rename_i hl
    cases h
    exact store_e hti hr hop hx hy ht hg hv hl
  | nilCheck x =>
    rw [hop] at h
    have h0 := h
    simp only [eff] at h
    split at h <;> first | (cases h; exact nilCheck_v hr hop h0) | cases h
  | binOp op t x y ty =>
    rw [hop] at h
    simp only [eff] at h
    split at h
    · rename_i c hx hy
      split at h
      · rename_i e' b hk hb
        cases h
        exact nil_eql hti hr hop hk hx hy hb
      · rename_i e' b hk hb
        cases h
        exact nil_neq hti hr hop hk hx hy hb
      · cases h
    · rename_i p q _ hx hy
      obtain ⟨v, hv, h⟩ := Option.bind_eq_some_iff.1 h
      split at h
      case isFalse => cases h
      rename_i h1
      cases h
      exact bin_m hr hop hx hy hv h1
    · rename_i hx hy
      split at h
      · rename_i hk; cases h; exact ptr_nil hti hr hop (.inl rfl) hk hx hy
      · rename_i hk; cases h; exact ptr_nil hti hr hop (.inr rfl) hk hx hy
      · cases h
    · rename_i hx hy
      split at h
      · rename_i hk
        split at h
        case isFalse => cases h
        rename_i hh
        obtain ⟨rfl, rfl, hh⟩ := hh
        cases h
        exact ptr_same hti hr hop (.inl rfl) hk hh hx hy
      · rename_i hk
        split at h
        case isFalse => cases h
        rename_i hh
        obtain ⟨rfl, rfl, hh⟩ := hh
        cases h
        exact ptr_same hti hr hop (.inr rfl) hk hh hx hy
      · cases h
    · cases h
  | unOp op t x =>
    rw [hop] at h
    simp only [eff] at h
    split at h
    case h_2 => cases h
    rename_i p hx
    obtain ⟨v, hv, h⟩ := Option.bind_eq_some_iff.1 h
    split at h
    case isFalse => cases h
    rename_i h1
    cases h
    exact un_m hr hop hx hv h1
  | convert c d x =>
    rw [hop] at h
    simp only [eff] at h
    split at h
    · rename_i p hx
      obtain ⟨v, hv, h⟩ := Option.bind_eq_some_iff.1 h
      split at h
      case isFalse => cases h
      rename_i h1
      cases h
      exact conv_m hr hop hx hv h1
    · rename_i hx
      split at h
      · rename_i hc hd hg
        split at h
        case h_2 => cases h
        rename_i hre
        split at h
        case isFalse => cases h
        rename_i hh
        cases h
        exact conv_to hti hr hop hc hd hx hg hre hh
      · rename_i hc hd hg
        split at h
        case h_2 => cases h
        rename_i hre
        split at h
        case isFalse => cases h
        rename_i hh
        obtain ⟨rfl, rfl, hh⟩ := hh
        cases h
        exact conv_from hti hr hop hc hd hx hg hre hh
      · cases h
    · cases h
  | makeInterface t x =>
    rw [hop] at h
    have h0 := h
    simp only [eff] at h
    split at h
    · split at h <;> first | (cases h; exact makeIface_v hti hr hop h0) | cases h
    · split at h <;> first | (cases h; exact makeIface_v hti hr hop h0) | cases h
    · cases h
  | makeFunc fn first caps =>
    rw [hop] at h
    cases fn with
    | func f =>
      have h0 := h
      simp only [eff] at h
      split at h
      case isFalse => cases h
      obtain ⟨l, hl, rfl⟩ := Option.map_eq_some_iff.1 h
      exact makeFunc_v hr hop h0
    | _ => cases h
  | makeMap t r =>
    rw [hop] at h
    cases r with
    | none =>
      cases h
      exact fun i0 hi => makeMap_e hr hi hop
    | some r => cases h
  | slice t x lo hi mx =>
    rw [hop] at h
    cases mx with
    | some m => cases h
    | none =>
      have hval : ∃ v, e = .val v := by
        simp only [eff] at h
        have key : ∀ n l h' vx, effSlice n l h' vx = some e → ∃ v, e = .val v := by
          intro n l h' vx hE
          unfold effSlice at hE
          repeat' (first | (cases hE; exact ⟨_, rfl⟩) | (cases hE; done) | (split at hE))
        split at h
        · exact key _ _ _ _ h
        · split at h
          · exact key _ _ _ _ h
          · cases h
        · cases h
      obtain ⟨v, rfl⟩ := hval
      exact slice_v hti hr hop h
  | fieldAddr t x f =>
    rw [hop] at h
    have h0 := h
    simp only [eff] at h
    split at h
    · obtain ⟨p, hp, rfl⟩ := Option.map_eq_some_iff.1 h
      exact fieldAddr_v hti hr hop h0
    · obtain ⟨p, hp, rfl⟩ := Option.map_eq_some_iff.1 h
      exact fieldAddr_v hti hr hop h0
    · cases h
  | field t x f =>
    rw [hop] at h
    have h0 := h
    simp only [eff] at h
    split at h
    case h_2 => cases h
    split at h
    case h_2 => cases h
    obtain ⟨p, hp, rfl⟩ := Option.map_eq_some_iff.1 h
    exact field_v hti hr hop h0
  | indexAddr t x i =>
    rw [hop] at h
    have hval : ∃ v, e = .val v := by
      simp only [eff] at h
      split at h
      case h_2 => cases h
      unfold effIndexAddr at h
      repeat' (first | (cases h; exact ⟨_, rfl⟩) | (cases h; done) | (split at h))
    obtain ⟨v, rfl⟩ := hval
    exact indexAddr_v hti hr hop h
  | index t x i =>
    rw [hop] at h
    have hval : ∃ v, e = .val v := by
      simp only [eff] at h
      repeat' (first | (cases h; exact ⟨_, rfl⟩) | (cases h; done) | (split at h))
    obtain ⟨v, rfl⟩ := hval
    exact index_v hti hr hop h
  | lookup t x k ok =>
    rw [hop] at h
    have hval : ∃ v, e = .val v := by
      simp only [eff] at h
      repeat' (first | (cases h; exact ⟨_, rfl⟩) | (cases h; done) | (split at h))
    obtain ⟨v, rfl⟩ := hval
    exact lookup_v hti hr hop h
  | mapUpdate t x k y =>
    rw [hop] at h
    simp only [eff] at h
    split at h
    case h_2 => cases h
    rename_i kt et r kv c hk hx hi hy
    split at h
    case h_2 => cases h
    rename_i es hg
    split at h
    case isFalse => cases h
    rename_i hb
    simp only [Bool.and_eq_true] at hb
    obtain ⟨es', hes, rfl⟩ := Option.map_eq_some_iff.1 h
    exact mapUpdate_e hti hr (.inl hop) hk hx hi hy (by rintro rfl; cases hb.2) hg hb.1 hes
  | insert t x k y =>
    rw [hop] at h
    simp only [eff] at h
    split at h
    case h_2 => cases h
    rename_i kt et r kv c hk hx hi hy
    split at h
    case h_2 => cases h
    rename_i es hg
    split at h
    case isFalse => cases h
    rename_i hb
    simp only [Bool.and_eq_true] at hb
    obtain ⟨es', hes, rfl⟩ := Option.map_eq_some_iff.1 h
    exact mapUpdate_e hti hr (.inr hop) hk hx hi hy (by rintro rfl; cases hb.2) hg hb.1 hes
  | range t x =>
    rw [hop] at h
    simp only [eff] at h
    split at h
    case h_2 => cases h
    rename_i str hk hx
    cases h
    exact fun i0 hi => range_e hti hr hi hop hk hx
  | next x b =>
    rw [hop] at h
    cases b with
    | false => cases h
    | true =>
      simp only [eff] at h
      split at h
      case h_2 => cases h
      rename_i r hx
      split at h
      case h_2 => cases h
      rename_i str pos hg
      split at h
      · cases h
        exact next_e hr hop hx hg ‹_›
      · cases h
        exact next_over hr hop hx hg ‹_›
  | typeAssert x st d ok =>
    rw [hop] at h
    cases ok with
    | false => cases h
    | true =>
      simp only [eff] at h
      split at h
      case h_2 => cases h
      rename_i t v k hx hk
      split at h
      · cases h
      · rename_i hni
        split at h
        case isFalse => cases h
        rename_i htd
        subst htd
        have hxu := (ev_m hr hx).1
        have hrun : (execOp a.eval o).run P w = .ok (.value (.tuple #[v, .bool true])) w := by
          obtain ⟨dst, op', type, pos, after, guard⟩ := o
          cases hop
          have hko := kd_of hti hk
          simp only [execOp, hxu, Instr.typeAssert]
          cases k with
          | iface => exact absurd rfl hni
          | struct fs => obtain ⟨fa, hu, _⟩ := hko; simp [run_underlying hu]
          | map a b => simp [run_underlying hko.1]
          | func => obtain ⟨_, _, _, hu⟩ := hko; simp [run_underlying hu]
          | int q => simp [run_underlying (show P.underlying t = some (.int q) from hko)]
          | bool => simp [run_underlying (show P.underlying t = some .bool from hko)]
          | string => simp [run_underlying (show P.underlying t = some .string from hko)]
          | slice q => simp [run_underlying (show P.underlying t = some (.slice q) from hko)]
          | array n q => simp [run_underlying (show P.underlying t = some (.array n q) from hko)]
          | ptr q => simp [run_underlying (show P.underlying t = some (.pointer q) from hko)]
          | uptr => simp [run_underlying (show P.underlying t = some .unsafePointer from hko)]
        have htup : ∀ {x : V}, R1 w E s.get x v → Rv w E s.get (.tup [x, .b true]) (.tuple #[v, .bool true]) := fun hx => ⟨[v, .bool true], rfl, rfl, fun j y hy => by
          match j, hy with
          | 0, hy => cases hy; exact ⟨_, rfl, hx⟩
          | 1, hy => cases hy; exact ⟨_, rfl, ⟨0, rfl, rfl⟩, fun _ => rfl⟩⟩
        split at h
        · rename_i us
          split at h
          case isFalse => cases h
          rename_i hall
          cases h
          refine ⟨_, hrun, htup ⟨us.toList, rfl, by simp, fun j y hy => ?_⟩⟩
          rw [List.getElem?_map] at hy
          obtain ⟨u, hu, rfl⟩ := Option.map_eq_some_iff.1 hy
          have h1 : u.oneCell' = true := Array.all_eq_true_iff_forall_mem.1 hall u (Array.mem_of_getElem? (by simpa using hu))
          exact ⟨u, hu, h1, 0, rfl, h1⟩
        · rename_i hv
          split at h
          case isFalse => cases h
          rename_i h1
          cases h
          exact ⟨_, hrun, htup ⟨⟨0, rfl, h1⟩, fun _ => h1⟩⟩
  | extract x i =>
    rw [hop] at h
    have h0 := h
    simp only [eff] at h
    split at h
    case h_2 => cases h
    obtain ⟨p, hp, rfl⟩ := Option.map_eq_some_iff.1 h
    exact extract_v hr hop h0
  | call c =>
    rw [hop] at h
    exact call_sound hti hr hop h
  | panic x =>
    rw [hop] at h
    simp only [eff] at h
    split at h
    case h_2 => cases h
    rename_i t v hx
    cases h
    refine ⟨.iface t v, ?_, 0, rfl, rfl⟩
    obtain ⟨dst, op', type, pos, after, guard⟩ := o
    cases hop
    simp [execOp, (ev_m hr hx).1, Instr.panic]
  | _ => rw [hop] at h; cases h
end
end Go.Vx
