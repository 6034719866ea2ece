/- The code, run on memory told without addresses: the definitions. The table of a program's types, made from the program. Objects under other names. Arrays that are written no more; lists of names. Calls: the callee sees what it reaches, under names of its own. One operation, run by the machine. One operation of a region, run by the machine, and what the state is then. Code, run by the machine. What is left of a state at a loop's head. Code, run by the machine. What an operation does hangs on what it looks at alone. A function, run by the machine. What a function hands back. A function, run by the machine. A function, run by the machine: the deferred calls, and all of it. Regions whose order is open: the states behind some of their steps. Regions whose order is open: the run in the order of the text. Regions whose order is open: any order does what the order of the text does. -/
import Derived.Test.YtibgjojeppijfaaGreatDoorV0
import Derived.Orders
import Derived.Scope
import Derived.Defers
set_option linter.unusedVariables false
namespace Go.Vx
open Go

def mapO {α β : Type} (f : α → Option β) : List α → Option (List β)
  | [] => some []
  | x :: l => match f x, mapO f l with
    | some y, some r => some (y :: r)
    | _, _ => none
/-! Objects under other names. -/
def renC (ρ : Ref → Option Ref) : C → Option C
  | .tk r sz rs => (ρ r).map fun q => .tk q sz rs
  | .sl r off sz n => (ρ r).map fun q => .sl q off sz n
  | .ptr r off => (ρ r).map fun q => .ptr q off
  | .mp r => (ρ r).map .mp
  | .fn f caps => (mapO ρ caps).map (.fn f)
  | x => some x
def renV1 (ρ : Ref → Option Ref) : V → Option V
  | .c x => (renC ρ x).map .c
  | .agg cs => (mapO (renC ρ) cs).map .agg
  | .tup _ => none
def renV (ρ : Ref → Option Ref) : V → Option V
  | .tup vs => (mapO (renV1 ρ) vs).map .tup
  | v => renV1 ρ v
def renOb (ρ : Ref → Option Ref) : Ob → Option Ob
  | .box e cs => (mapO (renC ρ) cs).map (.box e)
  | .tok e sz n => some (.tok e sz n)
  | .map es => (mapO (fun p => (renC ρ p.2).map (p.1, ·)) es).map .map
  | .iter s n => some (.iter s n)
  | .pmap es => some (.pmap es)
  | .hole => none
  | .gone => some .gone
def refsC : C → List Ref
  | .tk r _ _ | .ptr r _ | .mp r | .sl r _ _ _ => [r]
  | .fn _ caps => caps
  | _ => []
def refsV1 : V → List Ref
  | .c x => refsC x
  | .agg cs => cs.flatMap refsC
  | .tup _ => []
def refsV : V → List Ref
  | .tup vs => vs.flatMap refsV1
  | v => refsV1 v
def refsOb : Ob → List Ref
  | .box _ cs => cs.flatMap refsC
  | .map es => es.flatMap fun p => refsC p.2
  | _ => []
def Ref.eqb : Ref → Ref → Bool
  | .loc i, .loc j => Nat.beq i j
  | .out i, .out j => Nat.beq i j
  | _, _ => false
def posR (r : Ref) : List Ref → Option Nat
  | [] => none
  | q :: l => bif r.eqb q then some 0 else (posR r l).map (· + 1)
def addR (acc : List Ref) : List Ref → List Ref
  | [] => acc
  | r :: l => match posR r acc with
    | some _ => addR acc l
    | none => addR (acc ++ [r]) l
/-- What is reached from some objects, themselves first. -/
def reach (get : Ref → Option Ob) (keep : Ref → Bool) : Nat → Nat → List Ref → List Ref
  | 0, _, acc => acc
  | n + 1, i, acc => match acc[i]? with
    | none => acc
    | some r => match get r with
      | some o => reach get keep n (i + 1) (addR acc ((refsOb o).filter keep))
      | none => reach get keep n (i + 1) acc

/-! Calls. -/
inductive Out where
  | ret (v : V)
  | pan (x : C)
abbrev Orc := FuncId → List V → List Ob → Option (Out × List Ob)
structure Cfg where
  P : Program
  ti : TI
  kp : FuncId → Bool
  ok : FuncId → Bool
/-- The cells, one element's rows' sizes over and over. -/
def fzs (f : Option Nat → C → Option D) (zs : List (Option Nat)) : List (Option Nat) → List C → Option (List D)
  | _, [] => some []
  | [], c :: l => match f (zs.headD none) c, fzs f zs zs.tail l with
    | some x, some r => some (x :: r)
    | _, _ => none
  | z :: l0, c :: l => match f z c, fzs f zs l0 l with
    | some x, some r => some (x :: r)
    | _, _ => none
/-- A value that is written no more: the arrays that it holds are read from now on. -/
def fz (ti : TI) (get : Ref → Option Ob) : Nat → Option Nat → C → Option D
  | n + 1, _, .sl r off sz k => match get r with
    | some (.box e cs) => if off + k * sz ≤ cs.length then
        (match fzs (fz ti get n) (match ti e with | some row => row.szs | none => []) [] ((cs.drop off).take (k * sz)) with
         | some ds => some (.rows sz (chunks sz k ds))
         | none => none) else none
    | _ => none
  | _, z, c => c.dz? z
def stripC (z : Option Nat) : C → C
  | .tk _ sz rs => .d (.rows sz rs)
  | .d .nl => match z with
    | some sz => .d (.rows sz [])
    | none => .d .nl
  | .d (.em k) => match z with
    | some sz => .d (.rows sz [])
    | none => .d (.em k)
  | c => c
def stripCs : List (Option Nat) → List C → List C
  | _, [] => []
  | zs, x :: l => stripC (zs.headD none) x :: stripCs zs.tail l
def stripV (ti : TI) (t : TypeId) : V → V
  | .c x => .c (stripC (match ti t with | some r => r.szs.headD none | none => none) x)
  | .agg cs => .agg (stripCs (match ti t with | some r => r.szs | none => []) cs)
  | v => v
def stripL (ti : TI) : List TypeId → List V → List V
  | t :: ts, v :: l => stripV ti t v :: stripL ti ts l
  | _, l => l
def toOut (m : List Ref) (r : Ref) : Option Ref := (posR r m).map .out
def back (m : List Ref) (base : Nat) : Ref → Option Ref
  | .out i => match m[i]? with
    | some r => some r
    | none => some (.loc (base + (i - m.length)))
  | .loc _ => none
def renOut (ρ : Ref → Option Ref) : Out → Option Out
  | .ret v => (renV ρ v).map .ret
  | .pan x => (renC ρ x).map .pan
def slC : C → List Ref
  | .sl r _ _ _ => [r]
  | _ => []
def slV : V → List Ref
  | .c x => slC x
  | .agg cs => cs.flatMap slC
  | .tup _ => []
def frC (ti : TI) (get : Ref → Option Ob) : C → C
  | .sl r off sz n => match fz ti get 16 none (.sl r off sz n) with
    | some x => .d x
    | none => .dead
  | c => c
def frV (ti : TI) (get : Ref → Option Ob) : V → V
  | .c x => .c (frC ti get x)
  | .agg cs => .agg (cs.map (frC ti get))
  | v => v
/-- The arrays that values hold. -/
def held (get : Ref → Option Ob) (vs : List V) : List Ref := match addR [] (vs.flatMap slV) with
  | [] => []
  | l => reach get (fun _ => true) 64 0 l
/-- Only what is in a list. -/
def only (G : List Ref) (get : Ref → Option Ob) (r : Ref) : Option Ob := match posR r G with
  | some _ => get r
  | none => none
def without (G : List Ref) (get : Ref → Option Ob) (r : Ref) : Option Ob := match posR r G with
  | some _ => (match get r with | some .hole => some .hole | some _ => some .gone | none => none)
  | none => get r
def withoutL (G : List Ref) (get : Ref → Option Ob) : Ref → Option Ob := match G with
  | [] => get
  | _ => without G get
def heldBy (cf : Cfg) (get : Ref → Option Ob) (f : FuncId) (vs : List V) : List Ref := bif cf.kp f then [] else held get vs
/-- Values that go over: arrays are read from now on, slices too. -/
def goOver (cf : Cfg) (get : Ref → Option Ob) (f : FuncId) (ts : List TypeId) (G : List Ref) (vs : List V) : List V :=
  bif cf.kp f then vs else stripL cf.ti ts (vs.map (frV cf.ti (only G get)))
def paramsOf (cf : Cfg) (f : FuncId) : List TypeId := match cf.P.funcs[f]? with
  | some fn => fn.params.toList
  | none => []
/-- What a call leaves: its outcome, what becomes of the objects that it reached, the new ones. -/
def callEff (cf : Cfg) (orc : Orc) (get : Ref → Option Ob) (base : Nat) (f : FuncId) (args : List V) : Option (Out × List (Ref × Ob) × List Ob) :=
  let G := heldBy cf get f args
  let args' := goOver cf get f (paramsOf cf f) G args
  let get' := withoutL G get
  let m := reach get' (fun _ => true) 64 0 (addR [] (args'.flatMap refsV1))
  match mapO (fun r => (get' r).bind (renOb (toOut m))) m, mapO (renV1 (toOut m)) args' with
  | some objs, some as1 => match orc f as1 objs with
    | some (out, objs') => if m.length ≤ objs'.length then
        (match mapO (renOb (back m base)) objs', renOut (back m base) out with
         | some os, some out' => some (out', G.map (·, .gone) ++ m.zip os, os.drop m.length)
         | _, _ => none) else none
    | none => none
  | _, _ => none

def sameVal : Value → Value → Bool
  | .bool a, .bool b => a == b
  | .map none, .map none => true
  | .pointer none, .pointer none => true
  | .int k a, .int j b => k == j && a == b
  | .string a, .string b => decide (a = b)
  | .iface t a, .iface u b => t == u && sameVal a b
  | .nilIface, .nilIface => true
  | .nilFunc, .nilFunc => true
  | _, _ => false
def D.same : D → D → Bool
  | .m a, .m b => sameVal a b
  | .nl, .nl => true
  | .em a, .em b => a == b
  | .rows sz rs, .rows sz' rs' => sz == sz' && sameLL rs rs'
  | _, _ => false
where
  sameLL : List (List D) → List (List D) → Bool
  | [], [] => true
  | a :: l, b :: l' => sameL a b && sameLL l l'
  | _, _ => false
  sameL : List D → List D → Bool
  | [], [] => true
  | a :: l, b :: l' => D.same a b && sameL l l'
  | _, _ => false
def sameDs : List D → List D → Bool
  | [], [] => true
  | a :: l, b :: l' => D.same a b && sameDs l l'
  | _, _ => false
def sameRs : List Ref → List Ref → Bool
  | [], [] => true
  | a :: l, b :: l' => a.eqb b && sameRs l l'
  | _, _ => false
def C.same : C → C → Bool
  | .d a, .d b => a.same b
  | .tk r sz rs, .tk r' sz' rs' => r.eqb r' && D.same (.rows sz rs) (.rows sz' rs')
  | .sl r o z n, .sl r' o' z' n' => r.eqb r' && o == o' && z == z' && n == n'
  | .ptr r o, .ptr r' o' => r.eqb r' && o == o'
  | .rp cs, .rp cs' => sameDs cs cs'
  | .mp r, .mp r' => r.eqb r'
  | .fn f c, .fn f' c' => f == f' && sameRs c c'
  | .dead, .dead => true
  | _, _ => false
def sameCs : List C → List C → Bool
  | [], [] => true
  | a :: l, b :: l' => a.same b && sameCs l l'
  | _, _ => false
def sameEs : List (Value × C) → List (Value × C) → Bool
  | [], [] => true
  | (k, a) :: l, (k', b) :: l' => sameVal k k' && a.same b && sameEs l l'
  | _, _ => false
def Ob.same : Ob → Ob → Bool
  | .box e cs, .box e' cs' => e == e' && sameCs cs cs'
  | .tok e sz n, .tok e' sz' n' => e == e' && sz == sz' && n == n'
  | .map es, .map es' => sameEs es es'
  | .iter s n, .iter s' n' => decide (s = s') && n == n'
  | .hole, .hole => true
  | .gone, .gone => true
  | _, _ => false

/-! One operation. -/
def S.upds (s : S) : List (Ref × Ob) → S
  | [] => s
  | (r, o) :: l => (s.upd r o).upds l
def yieldB (ops : Array Oper) (t : List V) (j : Nat) : Option (Option Bool) :=
  match (ops[j]?).bind (·.dst) with
  | none => some none
  | some d => match t[d]? with
    | none => some none
    | some (.c (.d (.m (.bool b)))) => some (some b)
    | some (.tup []) => some none
    | _ => none
def wantB (ops : Array Oper) (t : List V) (o : Oper) : Option Bool :=
  match o.guard with
  | none => some true
  | some (j, want) => match yieldB ops t j with
    | some (some b) => some (b == want)
    | some none => some false
    | none => none
/-- What an operation does: a value, objects that are written, objects that are new; or it panics. -/
inductive Act1 where
  | go (v : V) (wr : List (Ref × Ob)) (new : List Ob)
  | dfr (f : FuncId) (args : List V)
  | pan (x : C) (wr : List (Ref × Ob)) (new : List Ob)
def dfrO (ev : Operand → Option V) : Op → Option (FuncId × List V)
  | .defer c => match c.callee with
    | .value (.func f) => match evList ev c.args.toList with
      | some args => some (f, args)
      | none => none
    | _ => none
  | _ => none
def actO (cf : Cfg) (orc : Orc) (ops : Array Oper) (o : Oper) (t : List V) (ev : Operand → Option V) (get : Ref → Option Ob) (base : Nat) : Option Act1 :=
  match wantB ops t o with
  | some false => some (.go (.tup []) [] [])
  | some true => match dfrO ev o.op with
   | some (f, args) => some (.dfr f args)
   | none => match eff cf.P cf.ti ev get o.op with
    | some (.val v) => some (.go v [] [])
    | some (.new b f) => some (.go (f (.loc base)) [] [b])
    | some (.upd r b v) => some (.go v [(r, b)] [])
    | some (.call f args) => match callEff cf orc get base f args with
      | some (.ret v, ch, new) => some (.go v ch new)
      | some (.pan x, ch, new) => some (.pan x ch new)
      | none => none
    | some (.pan x) => some (.pan x [] [])
    | none => none
  | none => none
/-- The objects written, and the new ones at the end. -/
def S.wrote (s : S) (wr : List (Ref × Ob)) (new : List Ob) : S := { s.upds wr with l := (s.upds wr).l ++ new }
inductive R1s where
  | go (s : S)
  | pan (x : C) (s : S)
def runL (cf : Cfg) (orc : Orc) (ops : Array Oper) : List Nat → S → Option R1s
  | [], s => some (.go s)
  | i :: rest, s => match ops[i]? with
    | none => runL cf orc ops rest s
    | some o => match actO cf orc ops o s.t s.ev s.get s.l.length with
      | some (.go v wr new) => runL cf orc ops rest ((s.wrote wr new).put o.dst v)
      | some (.dfr f args) => runL cf orc ops rest (({ s with d := (f, args) :: s.d } : S).put o.dst (.tup []))
      | some (.pan x wr new) => some (.pan x (s.wrote wr new))
      | none => none

/-! A region whose order is left open: the order of the text, where what is not ordered does not meet. -/
/-- The objects that an operation looks at. -/
def refO (v : Option V) : List Ref := match v with
  | some (.c x) => refsC x
  | _ => []
def callLooks (cf : Cfg) (get : Ref → Option Ob) (f : FuncId) (args : List V) : List Ref :=
  let G := heldBy cf get f args
  G ++ reach (withoutL G get) (fun _ => true) 64 0 (addR [] ((goOver cf get f (paramsOf cf f) G args).flatMap refsV1))
def looks (cf : Cfg) (ev : Operand → Option V) (get : Ref → Option Ob) (o : Oper) : List Ref :=
  match o.op with
  | .load _ x | .next x _ | .lookup _ x _ _ | .mapUpdate _ x _ _ | .insert _ x _ _ | .store _ x _ | .convert _ _ x => refO (ev x)
  | .call c => (match effCall cf.P cf.ti ev get c with
    | some (.call f args) => callLooks cf get f args
    | _ => []) ++ match c.callee with
    | .builtin _ => c.args.toList.flatMap fun x => refO (ev x)
    | _ => []
  | _ => []
def looksW (cf : Cfg) (ops : Array Oper) (s : S) (o : Oper) : List Ref := match wantB ops s.t o with
  | some true => looks cf s.ev s.get o
  | _ => []
def lastB (r : Ref) : List (Ref × Ob) → Option Ob
  | [] => none
  | (q, o) :: l => match lastB r l with
    | some x => some x
    | none => bif r.eqb q then some o else none
/-- What is truly changed. -/
def turnedC (get : Ref → Option Ob) (wr : List (Ref × Ob)) (r : Ref) : Bool := match get r, lastB r wr with
  | some o, some o' => !o.same o'
  | _, _ => true
def turned (get : Ref → Option Ob) (wr : List (Ref × Ob)) : List (Ref × Ob) := wr.filter fun p => turnedC get wr p.1
def Act1.new : Act1 → List Ob
  | .go _ _ n => n
  | .dfr .. => []
  | .pan _ _ n => n
def Act1.wr : Act1 → List (Ref × Ob)
  | .go _ l _ => l
  | .dfr .. => []
  | .pan _ l _ => l
/-- A step: which operation, where its new objects lie, what it does, looks at, changes. -/
structure Stp where
  i : Nat
  base : Nat
  act : Act1
  rd : List Ref
  wr : List (Ref × Ob)
def inNew (base n : Nat) : Ref → Bool
  | .loc k => Nat.ble base k && Nat.blt k (base + n)
  | .out _ => false
def Stp.hits (x : Stp) (r : Ref) : Bool := x.wr.any (fun p => r.eqb p.1) || inNew x.base x.act.new.length r
def Stp.meets (x y : Stp) : Bool := y.rd.any x.hits
/-- Does j come behind i? -/
def behind (ops : Array Oper) (i : Nat) : Nat → Nat → Bool
  | 0, _ => false
  | n + 1, j => match ops[j]? with
    | none => false
    | some o => o.after.toList.any fun e => Region.binds .any e && (Nat.beq e.on i || behind ops i n e.on)
def ordered (ops : Array Oper) (i j : Nat) : Bool := behind ops i ops.size j || behind ops j ops.size i
/-- Nothing that was done ahead and is not ordered meets x. -/
def free1 (ops : Array Oper) (x : Stp) : List Stp → Bool
  | [] => true
  | y :: l => ((!(x.meets y) && !(y.meets x)) || ordered ops y.i x.i) && free1 ops x l
def there (get : Ref → Option Ob) (l : List Ref) : Bool := l.all fun r => match get r with
  | some .hole => false
  | some _ => true
  | none => false
def inR (l : List Ref) (r : Ref) : Bool := l.any r.eqb
def runD (cf : Cfg) (orc : Orc) (ops : Array Oper) : List Nat → List Stp → S → Option R1s
  | [], _, s => some (.go s)
  | i :: rest, lg, s => match ops[i]? with
    | none => none
    | some o => match actO cf orc ops o s.t s.ev s.get s.l.length with
      | none => none
      | some act =>
        let x : Stp := ⟨i, s.l.length, act, looksW cf ops s o, turned s.get act.wr⟩
        bif there s.get x.rd && act.wr.all (fun p => inR x.rd p.1) then
          match act with
          | .go v wr new => bif free1 ops x lg then runD cf orc ops rest (x :: lg) ((s.wrote wr new).put o.dst v) else none
          | .pan y wr new => bif rest.all (fun j => behind ops i ops.size j) && lg.all (fun y => (y.wr.isEmpty && y.act.new.isEmpty) || behind ops y.i ops.size i) then some (.pan y (s.wrote wr new)) else none
          | .dfr .. => none
        else none
/-- What is not ordered writes no variable that the other one looks at. -/
def apartAll (ops : Array Oper) : Bool :=
  (List.range ops.size).all fun i => (List.range i).all fun j => match ops[i]?, ops[j]? with
    | some x, some y => x.apart ops y && (match x.op with | .select .. => false | _ => true) || behind ops j ops.size i
    | _, _ => true
/-- What is behind something stands behind it. -/
def backs (ops : Array Oper) : Bool :=
  (List.range ops.size).all fun i => match ops[i]? with
    | some o => o.after.toList.all fun e => !Region.binds .any e || Nat.blt e.on i
    | none => true
/-- The code's open regions are so. -/
def codeOk : Code → Bool
  | .region _ ops true => apartAll ops && backs ops
  | .seq a b => codeOk a && codeOk b
  | .cond _ a b => codeOk a && codeOk b
  | .block _ c => codeOk c
  | .loop c => codeOk c
  | .scope c => codeOk c
  | _ => true
def blank (ops : Array Oper) (t : List V) : List V := ops.toList.foldl (fun t o => match o.dst with | some d => t.set d (.c .dead) | none => t) t

/-! The code. -/
inductive Res where
  | nx (s : S)
  | ex (id : Nat) (s : S)
  | rt (s : S)
  | pn (x : C) (s : S)
def scrub : List V → List V → List V
  | .c .dead :: t0, _ :: t => .c .dead :: scrub t0 t
  | .tup _ :: t0, _ :: t => .c .dead :: scrub t0 t
  | _ :: t0, v :: t => v :: scrub t0 t
  | _, t => t
def inLoc (n0 : Nat) : Ref → Bool
  | .loc i => Nat.ble n0 i
  | .out _ => false
def keepOld (n0 : Nat) (m : List Ref) : Ref → Option Ref
  | .out i => some (.out i)
  | .loc i => bif Nat.ble n0 i then (posR (.loc i) m).map (fun k => .loc (n0 + k)) else some (.loc i)
/-- What is left of a state at a loop's head: no variable that was not there ahead of the loop, no object that is not reached. -/
def trim (t0 : List V) (n0 : Nat) (s : S) : Option S :=
  let t := scrub t0 s.t
  bif Nat.beq s.l.length n0 then some { s with t := t } else bif Nat.ble s.l.length n0 then none else
  let m := reach s.get (inLoc n0) 64 0 (addR [] ((t.flatMap refsV ++ (s.l.take n0).flatMap refsOb ++ s.o.flatMap refsOb).filter (inLoc n0)))
  match mapO (renV (keepOld n0 m)) t, mapO (renOb (keepOld n0 m)) (s.l.take n0), mapO (fun r => (s.get r).bind (renOb (keepOld n0 m))) m, mapO (renOb (keepOld n0 m)) s.o, mapO (fun p => (mapO (renV1 (keepOld n0 m)) p.2).map (p.1, ·)) s.d with
  | some t', some l', some ml', some o', some d' => some ⟨t', l' ++ ml', o', d'⟩
  | _, _, _, _, _ => none
def iter (f : S → Option Res) (tr : S → Option S) : Nat → S → Option Res
  | 0, _ => none
  | n + 1, s => match f s with
    | some (.nx s') => match tr s' with
      | some s'' => iter f tr n s''
      | none => none
    | r => r
def Res.of : Option R1s → Option Res
  | some (.go s) => some (.nx s)
  | some (.pan x s) => some (.pn x s)
  | none => none
def exec (cf : Cfg) (orc : Orc) (fuel : Nat) : Code → S → Option Res
  | .skip, s => some (.nx s)
  | .label _, s => some (.nx s)
  | .region _ ops false, s => Res.of (runL cf orc ops (List.range ops.size) s)
  | .region _ ops true, s => match runD cf orc ops (List.range ops.size) [] s with
      | some (.pan x s') => some (.pn x { s' with t := blank ops s'.t })
      | r => Res.of r
  | .seq a b, s => match exec cf orc fuel a s with
    | some (.nx s') => exec cf orc fuel b s'
    | r => r
  | .cond c x y, s => match s.ev c with
    | some (.c (.d (.m (.bool b)))) => bif b then exec cf orc fuel x s else exec cf orc fuel y s
    | _ => none
  | .block id c, s => match exec cf orc fuel c s with
    | some (.ex i s') => bif Nat.beq i id then some (.nx s') else some (.ex i s')
    | r => r
  | .loop c, s => match trim s.t s.l.length s with
    | some s' => iter (exec cf orc fuel c) (trim s.t s.l.length) fuel s'
    | none => none
  | .scope c, s => exec cf orc fuel c s
  | .exit id, s => some (.ex id s)
  | .ret, s => some (.rt s)
  | _, _ => none

/-! A function. -/
def resV (cf : Cfg) (s : S) : ResultVar → Option V
  | .tmp t => s.t[t]?
  | .cell a ty => match eff cf.P cf.ti s.ev s.get (.load ty (.tmp a)) with
    | some (.val v) => some v
    | _ => none
def packRen (n : Nat) (m : List Ref) : Ref → Option Ref
  | .out i => some (.out i)
  | .loc i => (posR (.loc i) m).map fun k => .out (n + k)
def outRefs : Out → List Ref
  | .ret v => refsV v
  | .pan _ => []
/-- What is left of a call's memory: what was handed in, and what of the new is reached from there or from the result. -/
def pack (s : S) (o : Out) : Option (Out × List Ob) :=
  let m := reach s.get (inLoc 0) 64 0 (addR [] ((outRefs o ++ s.o.flatMap refsOb).filter (inLoc 0)))
  match renOut (packRen s.o.length m) o, mapO (renOb (packRen s.o.length m)) s.o, mapO (fun r => (s.get r).bind (renOb (packRen s.o.length m))) m with
  | some o', some os, some ns => some (o', os ++ ns)
  | _, _, _ => none
def isR1 : V → Bool
  | .tup _ => false
  | _ => true
/-- A deferred call: what recover tells it (none: nothing panics), the objects that it reaches; what becomes of these; it takes what was thrown. -/
abbrev DOrc := FuncId → Option C → List V → List Ob → Option (List Ob)
def dfrEff (do' : DOrc) (s : S) (x : Option C) (f : FuncId) (args : List V) : Option S :=
  let m := reach s.get (fun _ => true) 64 0 (addR [] (args.flatMap refsV1))
  match mapO (fun r => (s.get r).bind (renOb (toOut m))) m, mapO (renV1 (toOut m)) args with
  | some objs, some as1 => match do' f x as1 objs with
    | some objs' => if objs'.length = m.length then (mapO (renOb (back m 0)) objs').map fun os => s.upds (m.zip os) else none
    | none => none
  | _, _ => none
/-- The deferred calls, the last one first; x: what was thrown, and not taken yet. -/
def unwindE (do' : DOrc) (s : S) : Option C → List (FuncId × List V) → Option S
  | _, [] => none
  | x, [(f, args)] => dfrEff do' s x f args
  | _, _ => none
def retE (cf : Cfg) (f : FuncId) (fn : Func) (s : S) : Option (Out × List Ob) :=
  match mapO (resV cf s) fn.results.toList with
  | some vs =>
    let G := heldBy cf s.get f vs
    let vs' := goOver cf s.get f fn.resultTypes.toList G vs
    bif vs'.all isR1 then pack (s.upds (G.map (·, .gone))) (.ret (match vs' with | [v] => v | vs' => .tup vs')) else none
  | none => none
def evFn (cf : Cfg) (do' : DOrc) (orc : Orc) (fuel : Nat) : Orc := fun f args objs =>
  match cf.P.funcs[f]? with
  | none => none
  | some fn => match fn.body with
    | none => none
    | some c => bif !cf.ok f then none else match exec cf orc fuel c ⟨args ++ List.replicate (fn.ntmps - args.length) (.c .dead), [], objs, []⟩ with
      | some (.nx s) | some (.rt s) => match s.d with
        | [] => retE cf f fn s
        | d => match unwindE do' s none d with
          | some s' => retE cf f fn s'
          | none => none
      | some (.pn x s) => match s.d with
        | [] => pack s (.pan x)
        | d => match refsC x, unwindE do' s (some x) d with
          | [], some s' => retE cf f fn s'
          | _, _ => none
      | _ => none
def orcN (cf : Cfg) (do' : DOrc) (sp : Orc) (fuel : Nat) : Nat → Orc
  | 0 => fun _ _ _ => none
  | n + 1 => fun f args objs => match sp f args objs with
    | some r => some r
    | none => evFn cf do' (orcN cf do' sp fuel n) fuel f args objs
end Go.Vx
namespace Go.Vx
open Go

def zD : Value → Option D
  | .slice none 0 0 => some .nl
  | .slice .. | .agg _ | .tuple _ => none
  | v => if v.oneCell' then some (.m v) else none
def zDs : List Value → Option (List D)
  | [] => some []
  | v :: l => match zD v, zDs l with
    | some x, some r => some (x :: r)
    | _, _ => none
/-- The rows' size of each cell that bears a slice. -/
def szsOf (P : Program) : Nat → TypeId → List (Option Nat)
  | 0, _ => []
  | n + 1, t => match P.underlying t with
    | some (.slice e) => match P.info? e with
      | some i => [some i.size]
      | none => [none]
    | some (.struct fa) => fa.toList.flatMap fun f => szsOf P n f.type
    | some (.array k e) => (List.replicate k (szsOf P n e)).flatten
    | _ => [none]
def kdFrom (P : Program) (t : TypeId) : Option Kd :=
  match P.underlying t with
  | some (.int k) => some (.int k)
  | some .bool => some .bool
  | some .string => some .string
  | some (.struct fa) => if fa.toList.all (fun f => match P.info? f.type with | some i => decide (i.size ≠ 0) | none => false) then some (.struct (fa.toList.map fun f => (f.offset, f.type))) else none
  | some (.slice e) => some (.slice e)
  | some (.map k e) => match P.underlying k with
    | some .string | some (.int _) => some (.map k e)
    | some (.array 2 e') => match P.underlying e' with
      | some .string => some (.map k e)
      | _ => none
    | _ => none
  | some (.array n e) => some (.array n e)
  | some (.pointer e) => some (.ptr e)
  | some (.func ..) => some .func
  | some (.interface _) => some .iface
  | some .unsafePointer => some .uptr
  | _ => none
def tiOf (P : Program) : TI := fun t =>
  match P.info? t, kdFrom P t with
  | some i, some k => match i.zero with
    | some z => match zDs z.cells.toList with
      | some zs => if z.cells.size = i.size ∧ ((TRow.mk k i.size i.bytes zs (szsOf P 8 t)).agg = false → z.oneCell' = true) then some ⟨k, i.size, i.bytes, zs, szsOf P 8 t⟩ else none
      | none => none
    | none => none
  | _, _ => none
theorem zD_sound {v : Value} {x : D} (h : zD v = some x) : Zc x v := by
  unfold zD at h
  split at h
  · cases h; rfl
  · cases h
  · cases h
  · cases h
  · split at h
    · cases h; exact ⟨rfl, by assumption⟩
    · cases h
theorem zDs_sound {l : List Value} {xs : List D} (h : zDs l = some xs) : xs.length = l.length ∧ ∀ (j : Nat) (x : D), xs[j]? = some x → ∃ y, l[j]? = some y ∧ Zc x y := by
  induction l generalizing xs with
  | nil => cases h; exact ⟨rfl, fun j x hx => by simp at hx⟩
  | cons v l ih =>
    simp only [zDs] at h
    split at h
    case h_2 => cases h
    rename_i x r hx hr
    cases h
    obtain ⟨h1, h2⟩ := ih hr
    refine ⟨by simp [h1], fun j y hy => ?_⟩
    cases j with
    | zero => cases hy; exact ⟨v, rfl, zD_sound hx⟩
    | succ j => exact h2 j y hy
theorem kdFrom_sound {P : Program} {t : TypeId} {k : Kd} (h : kdFrom P t = some k) : KdOk P t k := by
  unfold kdFrom at h
  split at h
  case h_4 =>
    rename_i fa hu
    split at h
    case isFalse => cases h
    rename_i hall
    cases h
    refine ⟨fa, hu, by simp, fun j p hp => ?_⟩
    rw [List.getElem?_map] at hp
    obtain ⟨f, hf, rfl⟩ := Option.map_eq_some_iff.1 hp
    refine ⟨f, by simpa using hf, rfl, rfl, ?_⟩
    have := List.all_eq_true.1 hall f (List.mem_of_getElem? hf)
    split at this
    · rename_i i hi; exact ⟨i, hi, of_decide_eq_true this⟩
    · cases this
  case h_6 =>
    rename_i k' e hu
    split at h
    · cases h; rename_i hk; exact ⟨hu, .inl hk⟩
    · cases h; rename_i i hk; exact ⟨hu, .inr (.inl ⟨i, hk⟩)⟩
    · split at h
      · cases h; rename_i e' hk _ he; exact ⟨hu, .inr (.inr ⟨e', hk, he⟩)⟩
      · cases h
    · cases h
  case h_9 => rename_i a b c hu; cases h; exact ⟨a, b, c, hu⟩
  case h_10 => rename_i ms hu; cases h; exact ⟨ms, hu⟩
  case h_12 => cases h
  all_goals (cases h; assumption)
theorem tiOf_ok (P : Program) : TIok P (tiOf P) := by
  intro t r h
  unfold tiOf at h
  split at h
  case h_2 => cases h
  rename_i i k hi hk
  split at h
  case h_2 => cases h
  rename_i z hz
  split at h
  case h_2 => cases h
  rename_i zs hzs
  split at h
  case isFalse => cases h
  rename_i hc
  cases h
  obtain ⟨h1, h2⟩ := zDs_sound hzs
  refine ⟨⟨i, hi, rfl, rfl, z, hz, hc.1, by rw [h1]; simpa using hc.1, fun j x hx => ?_⟩, kdFrom_sound hk, fun ha j hj z' hz' => ?_⟩
  · obtain ⟨y, hy, h3⟩ := h2 j x hx
    exact ⟨y, by simpa using hy, h3⟩
  · rw [hi] at hj
    cases hj
    rw [hz] at hz'
    cases hz'
    exact hc.2 ha
/-- A table whose rows are those of the program. -/
theorem TIok.of {P : Program} {ti : TI} (h : ∀ t r, ti t = some r → tiOf P t = some r) : TIok P ti := fun t r hr => tiOf_ok P t r (h t r hr)
end Go.Vx
namespace Go.Vx
open Go Go.RowKit
section
variable {P : Program} {ti : TI} {N N' : Nat} {outs outs' : Nat → Prop} {E E' : Env} {s : S} {a : Act} {w w' : World} {ob ob' : Ref → Option Ob} {ρ : Ref → Option Ref}

theorem mapO_get {α β : Type} {f : α → Option β} : ∀ {l : List α} {r : List β}, mapO f l = some r → r.length = l.length ∧ ∀ (j : Nat) (y : β), r[j]? = some y → ∃ x, l[j]? = some x ∧ f x = some y
  | [], r, h => by cases h; exact ⟨rfl, fun j y hy => by simp at hy⟩
  | x :: l, r, h => by
    simp only [mapO] at h
    split at h
    case h_2 => cases h
    rename_i y r' hy hr
    cases h
    obtain ⟨h1, h2⟩ := mapO_get hr
    refine ⟨by simp [h1], fun j z hz => ?_⟩
    cases j with
    | zero => cases hz; exact ⟨x, rfl, hy⟩
    | succ j => exact h2 j z hz
theorem mapO_get' {α β : Type} {f : α → Option β} {l : List α} {r : List β} (h : mapO f l = some r) (j : Nat) (x : α) (hx : l[j]? = some x) : ∃ y, r[j]? = some y ∧ f x = some y := by
  obtain ⟨h1, h2⟩ := mapO_get h
  have hj : j < r.length := by rw [h1]; exact (List.getElem?_eq_some_iff.1 hx).1
  obtain ⟨x', hx', hf⟩ := h2 j _ (List.getElem?_eq_getElem hj)
  rw [hx] at hx'
  cases hx'
  exact ⟨_, List.getElem?_eq_getElem hj, hf⟩
/-- The objects, apart from the variables of a call. -/
structure RelO (N : Nat) (outs : Nat → Prop) (E : Env) (ob : Ref → Option Ob) (w : World) : Prop where
  objs : ∀ r o, ob r = some o → Ro w E ob r o
  apart : ∀ r r' o o' k, ob r = some o → ob r' = some o' → blk E r o = some k → blk E r' o' = some k → r = r'
  mine : ∀ r o k, ob r = some o → blk E r o = some k → N ≤ k ∨ outs k
  has : ∀ b o, E.st b o → (w.cell? ⟨b, o, none⟩).isSome = true
  low : N ≤ w.heap.size
theorem Rel.o (h : Rel N outs E s a w) : RelO N outs E s.get w := ⟨h.objs, h.apart, h.mine, h.has, h.low⟩
theorem Rel.of (h : RelO N outs E s.get w) (ht : ∀ (i : Nat) (v : V), s.t[i]? = some v → ∃ u, a.tmps[i]? = some u ∧ Rv w E s.get v u) (hs : s.t.length = a.tmps.size) (hd : Dr w E s.get s.d a.defers) : Rel N outs E s a w :=
  ⟨ht, hs, h.objs, h.apart, h.mine, h.has, hd, h.low⟩
/-- The same objects, under other names. -/
structure Rn (ρ : Ref → Option Ref) (E : Env) (ob : Ref → Option Ob) (E' : Env) (ob' : Ref → Option Ob) : Prop where
  ref : ∀ r r', ρ r = some r' → live ob r → live ob' r' ∧ E'.b r' = E.b r ∧ E'.v r' = E.v r ∧ ∀ e sz n, ob' r' = some (.tok e sz n) → ob r = some (.tok e sz n)
  st : E'.st = E.st
theorem Rc.ren (h : Rn ρ E ob E' ob') {x x' : C} {u : Value} (hx : renC ρ x = some x') (hr : Rc w E ob x u) : Rc w E' ob' x' u := by
  cases x with
  | d x => cases hx; obtain ⟨n, hp⟩ := hr; exact ⟨n, by rw [h.st]; exact hp⟩
  | tk r sz rs =>
    obtain ⟨r', hr', rfl⟩ := Option.map_eq_some_iff.1 hx
    obtain ⟨⟨n, hp⟩, hl, hk⟩ := hr
    obtain ⟨h1, h2, h3, h4⟩ := h.ref r r' hr' hl
    exact ⟨⟨n, by rw [h.st]; exact hp⟩, h1, fun e sz' n' he => by rw [h3]; exact hk e sz' n' (h4 _ _ _ he)⟩
  | sl r off sz n =>
    obtain ⟨r', hr', rfl⟩ := Option.map_eq_some_iff.1 hx
    obtain ⟨h1, h2, h3, h4⟩ := h.ref r r' hr' hr.1
    exact ⟨h1, by rw [h2]; exact hr.2⟩
  | ptr r off =>
    obtain ⟨r', hr', rfl⟩ := Option.map_eq_some_iff.1 hx
    obtain ⟨h1, h2, h3, h4⟩ := h.ref r r' hr' hr.1
    exact ⟨h1, by rw [h2]; exact hr.2⟩
  | rp cs => cases hx; obtain ⟨n, b, o, hu, hc⟩ := hr; exact ⟨n, b, o, hu, by rw [h.st]; exact hc⟩
  | mp r =>
    obtain ⟨r', hr', rfl⟩ := Option.map_eq_some_iff.1 hx
    obtain ⟨h1, h2, h3, h4⟩ := h.ref r r' hr' hr.1
    exact ⟨h1, by rw [h2]; exact hr.2⟩
  | fn f caps =>
    obtain ⟨caps', hc, rfl⟩ := Option.map_eq_some_iff.1 hx
    obtain ⟨h1, h2⟩ := mapO_get hc
    refine ⟨fun r' hm => ?_, ?_⟩
    · obtain ⟨j, hj⟩ := List.mem_iff_getElem?.1 hm
      obtain ⟨r, hr1, hr2⟩ := h2 j r' hj
      exact (h.ref r r' hr2 (hr.1 r (List.mem_of_getElem? hr1))).1
    · rw [hr.2]
      congr 2
      apply List.ext_getElem?
      intro j
      rw [List.getElem?_map, List.getElem?_map]
      cases hj : caps'[j]? with
      | none =>
        have : caps[j]? = none := List.getElem?_eq_none (by rw [← h1]; exact List.getElem?_eq_none_iff.1 hj)
        rw [this]; rfl
      | some r' =>
        obtain ⟨r, hr1, hr2⟩ := h2 j r' hj
        rw [hr1]
        simp only [Option.map_some]
        rw [(h.ref r r' hr2 (hr.1 r (List.mem_of_getElem? hr1))).2.1]
  | dead => cases hx; trivial
theorem renC_dead {x x' : C} (hx : renC ρ x = some x') (h : x' ≠ .dead) : x ≠ .dead := by
  rintro rfl
  cases hx
  exact h rfl
theorem R1.ren (h : Rn ρ E ob E' ob') {x x' : V} {u : Value} (hx : renV1 ρ x = some x') (hr : R1 w E ob x u) : R1 w E' ob' x' u := by
  cases x with
  | c x =>
    obtain ⟨y, hy, rfl⟩ := Option.map_eq_some_iff.1 hx
    exact ⟨hr.1.ren h hy, fun hd => hr.2 (renC_dead hy hd)⟩
  | agg cs =>
    obtain ⟨cs', hc, rfl⟩ := Option.map_eq_some_iff.1 hx
    obtain ⟨us, hu, hl, hcs⟩ := hr
    obtain ⟨h1, h2⟩ := mapO_get hc
    refine ⟨us, hu, by rw [hl, h1], fun j x' hx' => ?_⟩
    obtain ⟨x, hx1, hx2⟩ := h2 j x' hx'
    obtain ⟨y, hy, hy1, hR⟩ := hcs j x hx1
    exact ⟨y, hy, hy1, hR.ren h hx2⟩
  | tup vs => exact hr.elim
theorem Rv.ren (h : Rn ρ E ob E' ob') {x x' : V} {u : Value} (hx : renV ρ x = some x') (hr : Rv w E ob x u) : Rv w E' ob' x' u := by
  cases x with
  | c x => exact Rv.of1 (R1.ren h (x := .c x) hx hr)
  | agg cs => exact Rv.of1 (R1.ren h (x := .agg cs) hx hr)
  | tup vs =>
    obtain ⟨vs', hv, rfl⟩ := Option.map_eq_some_iff.1 hx
    obtain ⟨us, hu, hl, hvs⟩ := hr
    obtain ⟨h1, h2⟩ := mapO_get hv
    refine ⟨us, hu, by rw [hl, h1], fun j x' hx' => ?_⟩
    obtain ⟨x, hx1, hx2⟩ := h2 j x' hx'
    obtain ⟨y, hy, hR⟩ := hvs j x hx1
    exact ⟨y, hy, hR.ren h hx2⟩
theorem R1.to {x : V} {u : Value} (h : Rv w E ob x u) (hx : isR1 x = true) : R1 w E ob x u := by
  cases x with
  | tup vs => cases hx
  | _ => exact h
theorem renV1_isR1 {x x' : V} (h : renV1 ρ x = some x') : isR1 x = true ∧ isR1 x' = true := by
  cases x with
  | c x => obtain ⟨y, _, rfl⟩ := Option.map_eq_some_iff.1 h; exact ⟨rfl, rfl⟩
  | agg cs => obtain ⟨y, _, rfl⟩ := Option.map_eq_some_iff.1 h; exact ⟨rfl, rfl⟩
  | tup vs => cases h
theorem Pv.ren (h : Rn ρ E ob E' ob') {vs vs' : List V} {us : List Value} (hv : mapO (renV1 ρ) vs = some vs') (hr : Pv w E ob vs us) : Pv w E' ob' vs' us := by
  obtain ⟨h1, h2⟩ := mapO_get hv
  refine ⟨by rw [hr.1, h1], fun j x' hx' => ?_⟩
  obtain ⟨x, hx1, hx2⟩ := h2 j x' hx'
  obtain ⟨y, hy, hR⟩ := hr.2 j x hx1
  exact ⟨y, hy, Rv.of1 ((R1.to hR (renV1_isR1 hx2).1).ren h hx2)⟩
theorem Ro.ren (h : Rn ρ E ob E' ob') {r r' : Ref} {o o' : Ob} (hb : E'.b r' = E.b r) (hv : E'.v r' = E.v r) (ho : renOb ρ o = some o') (hr : Ro w E ob r o) : Ro w E' ob' r' o' := by
  cases o with
  | box e cs =>
    obtain ⟨cs', hc, rfl⟩ := Option.map_eq_some_iff.1 ho
    obtain ⟨us, h1, h2, h3, h4⟩ := hr
    obtain ⟨k1, k2⟩ := mapO_get hc
    refine ⟨us, by rw [hb]; exact h1, by rw [k1]; exact h2, fun j x' hx' => ?_, by rw [h.st, hb]; exact h4⟩
    obtain ⟨x, hx1, hx2⟩ := k2 j x' hx'
    obtain ⟨y, hy, hy1, hR⟩ := h3 j x hx1
    exact ⟨y, hy, hy1, hR.ren h hx2⟩
  | tok e sz n =>
    cases ho
    obtain ⟨g, cap, cur, h1, h2⟩ := hr
    exact ⟨g, cap, cur, by rw [hv]; exact h1, by rw [h.st]; exact h2⟩
  | map es =>
    obtain ⟨es', hc, rfl⟩ := Option.map_eq_some_iff.1 ho
    obtain ⟨ents, clock, h1, h2, h3⟩ := hr
    obtain ⟨k1, k2⟩ := mapO_get hc
    refine ⟨ents, clock, by rw [hb]; exact h1, ⟨by rw [k1]; exact h2.1, h2.2⟩, fun j k x' hx' => ?_⟩
    obtain ⟨p, hp1, hp2⟩ := k2 j (k, x') hx'
    obtain ⟨y, hy, he⟩ := Option.map_eq_some_iff.1 hp2
    obtain ⟨pk, px⟩ := p
    cases he
    obtain ⟨en, h4, h5, h6, h7⟩ := h3 j pk px hp1
    exact ⟨en, h4, h5, h6, h7.ren h hy⟩
  | pmap es =>
    cases ho
    obtain ⟨ents, clock, h1, h2, h3⟩ := hr
    refine ⟨ents, clock, by rw [hb]; exact h1, fun kv d hf => ?_, h3⟩
    obtain ⟨i, v, k1, k2, k3⟩ := h2 kv d hf
    exact ⟨i, v, k1, k2, k3.ren h rfl⟩
  | iter t n => cases ho; exact ⟨by rw [hb]; exact hr.1, by rw [h.st, hb]; exact hr.2⟩
  | hole => cases ho
  | gone => cases ho; trivial
theorem blk_ren {r r' : Ref} {o o' : Ob} (hb : E'.b r' = E.b r) (hv : E'.v r' = E.v r) (ho : renOb ρ o = some o') : blk E' r' o' = blk E r o := by
  cases o with
  | box e cs => obtain ⟨cs', hc, rfl⟩ := Option.map_eq_some_iff.1 ho; simp [blk, hb]
  | tok e sz n => cases ho; simp [blk, hv]
  | map es => obtain ⟨cs', hc, rfl⟩ := Option.map_eq_some_iff.1 ho; simp [blk, hb]
  | pmap es => cases ho; simp [blk, hb]
  | iter t n => cases ho; simp [blk, hb]
  | hole => cases ho
  | gone => cases ho; rfl
/-- Some of the objects, under other names. -/
theorem RelO.ren (h : RelO N outs E ob w) (hn : Rn ρ E ob E' ob') (σ : Ref → Ref) (hσ : ∀ r' o', ob' r' = some o' → ∃ o, ob (σ r') = some o ∧ renOb ρ o = some o' ∧ E'.b r' = E.b (σ r') ∧ E'.v r' = E.v (σ r'))
    (hinj : ∀ r1 r2 o1 o2, ob' r1 = some o1 → ob' r2 = some o2 → σ r1 = σ r2 → r1 = r2) (hN : N' ≤ w.heap.size) (hm : ∀ r' o' k, ob' r' = some o' → blk E' r' o' = some k → N' ≤ k ∨ outs' k) : RelO N' outs' E' ob' w where
  objs := fun r' o' ho => by
    obtain ⟨o, h1, h2, h3, h4⟩ := hσ r' o' ho
    exact (h.objs _ o h1).ren hn h3 h4 h2
  apart := fun r1 r2 o1 o2 k h1 h2 k1 k2 => by
    obtain ⟨p1, a1, b1, c1, d1⟩ := hσ r1 o1 h1
    obtain ⟨p2, a2, b2, c2, d2⟩ := hσ r2 o2 h2
    rw [blk_ren c1 d1 b1] at k1
    rw [blk_ren c2 d2 b2] at k2
    exact hinj r1 r2 o1 o2 h1 h2 (h.apart _ _ _ _ k a1 a2 k1 k2)
  mine := hm
  has := fun b o hs => h.has b o (by rw [← hn.st]; exact hs)
  low := hN
end
end Go.Vx
namespace Go.Vx
open Go Go.RowKit
section
variable {P : Program} {ti : TI} {N N' : Nat} {outs outs' : Nat → Prop} {E E' : Env} {s : S} {a : Act} {w w' : World} {ob ob' : Ref → Option Ob} {ρ : Ref → Option Ref}

theorem Ref.eqb_iff {r q : Ref} : r.eqb q = true ↔ r = q := by
  cases r <;> cases q <;> simp [Ref.eqb]
theorem posR_some {r : Ref} : ∀ {l : List Ref} {i : Nat}, posR r l = some i → l[i]? = some r
  | [], i, h => by cases h
  | q :: l, i, h => by
    simp only [posR] at h
    cases e : r.eqb q with
    | true => rw [e] at h; cases h; rw [Ref.eqb_iff.1 e]; rfl
    | false =>
      rw [e] at h
      obtain ⟨j, hj, rfl⟩ := Option.map_eq_some_iff.1 h
      simpa using posR_some hj
theorem posR_none {r : Ref} : ∀ {l : List Ref}, posR r l = none → r ∉ l
  | [], h => by simp
  | q :: l, h => by
    simp only [posR] at h
    cases e : r.eqb q with
    | true => rw [e] at h; cases h
    | false =>
      rw [e] at h
      have h := posR_none (Option.map_eq_none_iff.1 h)
      rintro (_ | ⟨_, hm⟩)
      · rw [Ref.eqb_iff.2 rfl] at e; cases e
      · exact h hm
theorem addR_nodup : ∀ {l acc : List Ref}, acc.Nodup → (addR acc l).Nodup
  | [], acc, h => h
  | r :: l, acc, h => by
    simp only [addR]
    split
    · exact addR_nodup h
    · rename_i hn
      refine addR_nodup (List.nodup_append.2 ⟨h, by simp, ?_⟩)
      intro x hx y hy
      simp at hy
      subst hy
      exact fun e => posR_none hn (e ▸ hx)
theorem reach_nodup {get : Ref → Option Ob} {keep : Ref → Bool} : ∀ {n i : Nat} {acc : List Ref}, acc.Nodup → (reach get keep n i acc).Nodup
  | 0, i, acc, h => h
  | n + 1, i, acc, h => by
    simp only [reach]
    split
    · exact h
    · split
      · exact reach_nodup (addR_nodup h)
      · exact reach_nodup h

/-! Freezing. -/
def stG (E : Env) (ob : Ref → Option Ob) (G : List Ref) (b o : Nat) : Prop := E.st b o ∨ ∃ r ∈ G, ∃ e cs, ob r = some (.box e cs) ∧ b = E.b r ∧ o < cs.length
theorem without_get {G : List Ref} {r : Ref} {o : Ob} (h : without G ob r = some o) : (r ∈ G ∧ o = .gone ∧ ∃ o', ob r = some o' ∧ o' ≠ .hole) ∨ ((r ∉ G ∨ o = .hole) ∧ ob r = some o) := by
  unfold without at h
  split at h
  · rename_i i hi
    split at h
    · rename_i ho
      cases h
      exact .inr ⟨.inr rfl, ho⟩
    · rename_i o' hne ho
      cases h
      exact .inl ⟨List.mem_of_getElem? (posR_some hi), rfl, o', ho, fun e => hne e⟩
    · cases h
  · rename_i hn
    exact .inr ⟨.inl (posR_none hn), h⟩
theorem without_live {G : List Ref} {r : Ref} (h : live ob r) : live (without G ob) r := by
  obtain ⟨o, ho, hne⟩ := h
  unfold live without
  split
  · refine ⟨.gone, ?_, by simp⟩
    rw [ho]
    cases o <;> first | rfl | exact absurd rfl hne
  · exact ⟨o, ho, hne⟩
theorem freeze_le (E : Env) (ob : Ref → Option Ob) (G : List Ref) (w : World) : Le w E ob w ⟨E.b, E.v, stG E ob G⟩ (without G ob) :=
  ⟨fun _ _ h => .inl h, fun _ _ _ => rfl, fun _ h => without_live h, fun _ _ => rfl, fun r e sz n hl he => by
    rcases without_get he with ⟨_, h, _⟩ | ⟨_, h⟩
    · cases h
    · exact ⟨n, h, Nat.le_refl _, fun _ => rfl⟩⟩
theorem freeze_o (h : RelO N outs E ob w) (G : List Ref) : RelO N outs ⟨E.b, E.v, stG E ob G⟩ (without G ob) w := by
  have hb : ∀ r o, blk ⟨E.b, E.v, stG E ob G⟩ r o = blk E r o := fun r o => by cases o <;> rfl
  have hfar : ∀ r o k, r ∉ G → ob r = some o → blk E r o = some k → ∀ x, stG E ob G k x → E.st k x := by
    intro r o k hr ho hk x hx
    rcases hx with hx | ⟨q, hq, e, cs, hqo, hqb, _⟩
    · exact hx
    · have := h.apart r q o _ k ho hqo hk (by rw [hqb]; rfl)
      exact absurd (this ▸ hq) hr
  refine ⟨fun r o ho => ?_, fun r r' o o' k h1 h2 k1 k2 => ?_, fun r o k h1 k1 => ?_, fun b o hs => ?_, h.low⟩
  · rcases without_get ho with ⟨_, rfl, _⟩ | ⟨hr, ho⟩
    · trivial
    · rcases hr with hr | rfl
      · exact Ro_keep (freeze_le E ob G w) rfl rfl (fun _ _ => rfl) (fun k hk x hx => hfar r o k hr ho hk x hx) (h.objs r o ho)
      · trivial
  · rw [hb] at k1 k2
    rcases without_get h1 with ⟨_, rfl, _⟩ | ⟨_, h1⟩
    · cases k1
    · rcases without_get h2 with ⟨_, rfl, _⟩ | ⟨_, h2⟩
      · cases k2
      · exact h.apart r r' o o' k h1 h2 k1 k2
  · rw [hb] at k1
    rcases without_get h1 with ⟨_, rfl, _⟩ | ⟨_, h1⟩
    · cases k1
    · exact h.mine r o k h1 k1
  · rcases hs with hs | ⟨r, _, e, cs, hr, rfl, hlt⟩
    · exact h.has b o hs
    · obtain ⟨us, h1, h2, _⟩ := h.objs r _ hr
      simp [World.cell?, h1]
      omega
theorem freeze_sn (h : RelO N outs E ob w) (G : List Ref) : Sn N outs E ⟨E.b, E.v, stG E ob G⟩ := by
  intro b x hx
  rcases hx with hx | ⟨r, _, e, cs, hr, rfl, _⟩
  · exact .inl hx
  · exact .inr (h.mine r _ _ hr rfl)
theorem fzs_get {f : Option Nat → C → Option D} {zs : List (Option Nat)} : ∀ {l : List C} {z0 : List (Option Nat)} {ds : List D}, fzs f zs z0 l = some ds → ds.length = l.length ∧ ∀ (j : Nat) (d : D), ds[j]? = some d → ∃ c z, l[j]? = some c ∧ f z c = some d
  | [], z0, ds, h => by
    cases z0 <;> (cases h; exact ⟨rfl, fun j y hy => by simp at hy⟩)
  | c :: l, z0, ds, h => by
    have key : ∃ z z1 x r, f z c = some x ∧ fzs f zs z1 l = some r ∧ ds = x :: r := by
      cases z0 with
      | nil =>
        simp only [fzs] at h
        split at h
        case h_2 => cases h
        rename_i x r hx hr
        cases h
        exact ⟨_, _, x, r, hx, hr, rfl⟩
      | cons z z0 =>
        simp only [fzs] at h
        split at h
        case h_2 => cases h
        rename_i x r hx hr
        cases h
        exact ⟨_, _, x, r, hx, hr, rfl⟩
    obtain ⟨z, z1, x, r, hx, hr, rfl⟩ := key
    obtain ⟨h1, h2⟩ := fzs_get hr
    refine ⟨by simp [h1], fun j d hd => ?_⟩
    cases j with
    | zero => cases hd; exact ⟨c, z, rfl, hx⟩
    | succ j => exact h2 j d hd
theorem bound_all {α β : Type} {R : Nat → α → β → Prop} (hup : ∀ n m x y, R n x y → n ≤ m → R m x y) : ∀ (l : List α) (us : List β), (∀ (j : Nat) (x : α), l[j]? = some x → ∃ n y, us[j]? = some y ∧ R n x y) → ∃ n, ∀ (j : Nat) (x : α), l[j]? = some x → ∃ y, us[j]? = some y ∧ R n x y
  | [], us, _ => ⟨0, fun j x hx => by simp at hx⟩
  | x :: l, [], h => by obtain ⟨n, y, hy, _⟩ := h 0 x rfl; simp at hy
  | x :: l, u :: us, h => by
    obtain ⟨n, y, hy, hR⟩ := h 0 x rfl
    cases hy
    obtain ⟨m, hm⟩ := bound_all hup l us (fun j x hx => by simpa using h (j + 1) x (by simpa using hx))
    refine ⟨max n m, fun j x' hx' => ?_⟩
    cases j with
    | zero => cases hx'; exact ⟨u, rfl, hup _ _ _ _ hR (Nat.le_max_left _ _)⟩
    | succ j =>
      obtain ⟨y, hy, hR⟩ := hm j x' hx'
      exact ⟨y, hy, hup _ _ _ _ hR (Nat.le_max_right _ _)⟩
theorem only_get {G : List Ref} {r : Ref} {o : Ob} (h : only G ob r = some o) : r ∈ G ∧ ob r = some o := by
  unfold only at h
  split at h
  · exact ⟨List.mem_of_getElem? (posR_some ‹_›), h⟩
  · cases h
theorem fz_sound (h : RelO N outs E ob w) {G : List Ref} : ∀ {n : Nat} {z : Option Nat} {c : C} {x : D} {u : Value}, fz ti (only G ob) n z c = some x → Rc w E ob c u → ∃ m, Rp w (stG E ob G) m x u := by
  have other : ∀ {z : Option Nat} {c : C} {x : D} {u : Value}, c.dz? z = some x → Rc w E ob c u → ∃ m, Rp w (stG E ob G) m x u := by
    intro z c x u hx hR
    obtain ⟨m, hm⟩ := dz_sound hx hR
    exact ⟨m, hm.le (fun _ _ h => .inl h) (fun _ _ _ => rfl)⟩
  intro n
  induction n with
  | zero => intro z c x u hx hR; exact other (by cases c <;> exact hx) hR
  | succ n ih =>
    intro z c x u hx hR
    cases c with
    | sl r off sz k =>
      simp only [fz] at hx
      split at hx
      case h_2 => cases hx
      rename_i e cs ho
      split at hx
      case isFalse => cases hx
      rename_i hle
      split at hx
      case h_2 => cases hx
      rename_i ds hds
      cases hx
      obtain ⟨hG, ho⟩ := only_get ho
      obtain ⟨us, h1, h2, h3, _⟩ := h.objs r _ ho
      obtain ⟨hl, c, hc1, hc2, hu⟩ := hR
      obtain ⟨k1, k2⟩ := fzs_get hds
      have hdl : ds.length = k * sz := by rw [k1, List.length_take, List.length_drop]; omega
      have hcell : ∀ (j : Nat) (d : D), ds[j]? = some d → ∃ m y, ((us.toList.drop off).take (k * sz))[j]? = some y ∧ Rp w (stG E ob G) m d y := by
        intro j d hd
        have hj : j < k * sz := by rw [← hdl]; exact (List.getElem?_eq_some_iff.1 hd).1
        obtain ⟨c', z', hc', hf⟩ := k2 j d hd
        rw [List.getElem?_take, if_pos hj, List.getElem?_drop] at hc'
        obtain ⟨y, hy, hy1, hRy⟩ := h3 _ _ hc'
        obtain ⟨m, hm⟩ := ih hf hRy
        exact ⟨m, y, by rw [List.getElem?_take, if_pos hj, List.getElem?_drop]; simpa using hy, hm⟩
      obtain ⟨m, hm⟩ := bound_all (R := fun m d y => Rp w (stG E ob G) m d y) (fun n m x y h hle => h.up hle) ds _ hcell
      refine ⟨m + 1, some ⟨E.b r, off, none⟩, c, by rw [chunks_length]; exact hu, ⟨by rw [chunks_length]; exact hc1, by rw [chunks_length]; exact hc2, by simp⟩, fun q hq => ?_, fun i q hq j d hd => ?_⟩
      · obtain ⟨i, hi⟩ := List.mem_iff_getElem?.1 hq
        exact (chunks_get sz k ds hdl i q hi).1
      · obtain ⟨hql, hqj⟩ := chunks_get sz k ds hdl i q hq
        have hj : j < sz := by rw [← hql]; exact (List.getElem?_eq_some_iff.1 hd).1
        rw [hqj j hj] at hd
        obtain ⟨y, hy, hR⟩ := hm _ _ hd
        have hlt : i * sz + j < k * sz := by rw [← hdl]; exact (List.getElem?_eq_some_iff.1 hd).1
        rw [List.getElem?_take, if_pos hlt, List.getElem?_drop] at hy
        refine ⟨E.b r, off, y, rfl, .inr ⟨r, hG, e, cs, ho, rfl, by omega⟩, ?_, hR⟩
        simp only [World.cell?, h1, Option.isSome_none, Bool.false_eq_true, if_false]
        simpa using hy
    | _ => exact other (by simpa only [fz] using hx) hR
theorem frC_sound (h : RelO N outs E ob w) {G : List Ref} {c : C} {u : Value} (hR : Rc w E ob c u) : Rc w ⟨E.b, E.v, stG E ob G⟩ (without G ob) (frC ti (only G ob) c) u := by
  cases c with
  | sl r off sz n =>
    simp only [frC]
    split
    · exact fz_sound h ‹_› hR
    · trivial
  | _ => exact Rc.le (freeze_le E ob G w) hR
theorem frV_sound (h : RelO N outs E ob w) {G : List Ref} {v : V} {u : Value} (hR : Rv w E ob v u) : Rv w ⟨E.b, E.v, stG E ob G⟩ (without G ob) (frV ti (only G ob) v) u := by
  cases v with
  | c x =>
    refine ⟨frC_sound h hR.1, fun hd => hR.2 ?_⟩
    rintro rfl
    exact hd rfl
  | agg cs =>
    obtain ⟨us, hu, hl, hc⟩ := hR
    refine ⟨us, hu, by simp [hl], fun j x hx => ?_⟩
    rw [List.getElem?_map] at hx
    obtain ⟨x', hx', rfl⟩ := Option.map_eq_some_iff.1 hx
    obtain ⟨y, hy, hy1, hR⟩ := hc j x' hx'
    exact ⟨y, hy, hy1, frC_sound h hR⟩
  | tup vs => exact Rv.le (freeze_le E ob G w) hR

/-! Slices that are read from now on. -/
theorem stripC_sound {z : Option Nat} {c : C} {u : Value} (hR : Rc w E ob c u) : Rc w E ob (stripC z c) u := by
  unfold stripC
  split
  · exact hR.1
  · split
    · obtain ⟨n, hn⟩ := hR
      exact ⟨_, hn.nl_rows⟩
    · exact hR
  · split
    · obtain ⟨n, hn⟩ := hR
      exact ⟨_, hn.em_rows⟩
    · exact hR
  · exact hR
theorem stripC_dead {z : Option Nat} {c : C} (h : stripC z c ≠ .dead) : c ≠ .dead := by
  rintro rfl
  exact h rfl
theorem stripCs_get : ∀ {l : List C} {zs : List (Option Nat)}, (stripCs zs l).length = l.length ∧ ∀ (j : Nat) (x : C), (stripCs zs l)[j]? = some x → ∃ c z, l[j]? = some c ∧ x = stripC z c
  | [], zs => by
    refine ⟨by cases zs <;> rfl, fun j x hx => ?_⟩
    cases zs <;> simp [stripCs] at hx
  | c :: l, zs => by
    obtain ⟨h1, h2⟩ := stripCs_get (l := l) (zs := zs.tail)
    refine ⟨by simp [stripCs, h1], fun j x hx => ?_⟩
    cases j with
    | zero => simp [stripCs] at hx; exact ⟨c, _, rfl, hx.symm⟩
    | succ j => simp only [stripCs, List.getElem?_cons_succ] at hx; simpa using h2 j x hx
theorem stripV_sound {t : TypeId} {v : V} {u : Value} (hR : Rv w E ob v u) : Rv w E ob (stripV ti t v) u := by
  cases v with
  | c x => exact ⟨stripC_sound hR.1, fun hd => hR.2 (stripC_dead hd)⟩
  | agg cs =>
    obtain ⟨us, hu, hl, hc⟩ := hR
    obtain ⟨h1, h2⟩ := stripCs_get (l := cs) (zs := match ti t with | some r => r.szs | none => [])
    refine ⟨us, hu, by rw [hl]; exact h1.symm, fun j x hx => ?_⟩
    obtain ⟨c, z, hc', rfl⟩ := h2 j x hx
    obtain ⟨y, hy, hy1, hR⟩ := hc j c hc'
    exact ⟨y, hy, hy1, stripC_sound hR⟩
  | tup vs => exact hR
theorem stripL_sound : ∀ {ts : List TypeId} {vs : List V} {us : List Value}, Pv w E ob vs us → Pv w E ob (stripL ti ts vs) us
  | [], vs, us, h => by simpa only [stripL] using h
  | t :: ts, [], us, h => by simpa only [stripL] using h
  | t :: ts, v :: vs, us, h => by
    cases us with
    | nil => have := h.1; simp at this
    | cons u us =>
      have hv : Rv w E ob v u := by obtain ⟨y, hy, hR⟩ := h.2 0 v rfl; cases hy; exact hR
      have ht : Pv w E ob vs us := ⟨by simpa using h.1, fun j x hx => by simpa using h.2 (j + 1) x (by simpa using hx)⟩
      have ih := stripL_sound (ts := ts) ht
      refine ⟨by simp [stripL, ih.1], fun j x hx => ?_⟩
      cases j with
      | zero => simp only [stripL] at hx; cases hx; exact ⟨u, rfl, stripV_sound hv⟩
      | succ j => simp only [stripL, List.getElem?_cons_succ] at hx; simpa using ih.2 j x hx
end
end Go.Vx
namespace Go.Vx
open Go Go.RowKit
section
variable {P : Program} {ti : TI} {N N' : Nat} {outs outs' : Nat → Prop} {E E' : Env} {s : S} {a : Act} {w w' : World} {ob ob' : Ref → Option Ob} {ρ : Ref → Option Ref}

def obOf (objs : List Ob) : Ref → Option Ob
  | .out i => objs[i]?
  | .loc _ => none
/-- The blocks of what was handed in. -/
def ownBy (E : Env) (objs : List Ob) (k : Nat) : Prop := ∃ i o, objs[i]? = some o ∧ blk E (.out i) o = some k
def OutR (w : World) (E : Env) (ob : Ref → Option Ob) : Out → Ending → Prop
  | .ret v, .returned u => Rv w E ob v u
  | .pan x, .panicked ch => ∃ u, ch = [{ v := u, recovered := false }] ∧ R1 w E ob (.c x) u
  | _, _ => False
/-- A function that is called: what is behind it. -/
def Does (P : Program) (f : FuncId) (us : List Value) (w : World) (R : Ending → World → Prop) : Prop :=
  match (callFunc f us.toArray).run P w with
  | .ok (.enter f' as1) w1 => Calls P f' as1 w1 R
  | .ok (.value v) w1 => R (.returned v) w1
  | .ok (.row row as1) w1 => Rows P row as1 w1 fun v w2 => R (.returned v) w2
  | .halt (.panic v) w1 => R (.panicked [{ v, recovered := false }]) w1
  | _ => False
theorem Does.mono {f : FuncId} {us : List Value} {R R' : Ending → World → Prop} (h : Does P f us w R) (hr : ∀ e w', R e w' → R' e w') : Does P f us w R' := by
  unfold Does at *
  split at h
  · exact Calls.mono h hr
  · exact hr _ _ h
  · exact Rows.mono h fun _ _ => hr _ _
  · exact hr _ _ h
  · exact h.elim
def CallPost (w : World) (E : Env) (objs objs' : List Ob) (out : Out) (e : Ending) (w' : World) : Prop :=
  ∃ E', RelO w.heap.size (ownBy E objs) E' (obOf objs') w' ∧ Le w E (obOf objs) w' E' (obOf objs') ∧ Fr w.heap.size (ownBy E objs) w w' ∧ Sn w.heap.size (ownBy E objs) E E' ∧ OutR w' E' (obOf objs') out e
/-- What an oracle tells of calls is so. -/
def OKo (P : Program) (orc : Orc) : Prop := ∀ f args objs out objs', orc f args objs = some (out, objs') → ∀ (w : World) (E : Env) (us : List Value),
  RelO w.heap.size (ownBy E objs) E (obOf objs) w → Pv w E (obOf objs) args us → Does P f us w (CallPost w E objs objs' out)

/-- The objects written, and the new ones at their place. -/
def S.wroteAt (s : S) (wr : List (Ref × Ob)) (base : Nat) (new : List Ob) : S := { s.upds wr with l := fillL (s.upds wr).l base new }
theorem upd_len (s : S) (r : Ref) (o : Ob) : (s.upd r o).l.length = s.l.length := by cases r <;> simp [S.upd]
theorem upds_len : ∀ (wr : List (Ref × Ob)) (s : S), (s.upds wr).l.length = s.l.length
  | [], s => rfl
  | (r, o) :: wr, s => by rw [S.upds, upds_len wr, upd_len]
theorem upds_t : ∀ (wr : List (Ref × Ob)) (s : S), (s.upds wr).t = s.t
  | [], s => rfl
  | (r, o) :: wr, s => by rw [S.upds, upds_t wr, upd_t]
theorem upds_d : ∀ (wr : List (Ref × Ob)) (s : S), (s.upds wr).d = s.d
  | [], s => rfl
  | (r, o) :: wr, s => by rw [S.upds, upds_d wr, upd_d]
theorem wroteAt_end (s : S) (wr : List (Ref × Ob)) (new : List Ob) : s.wroteAt wr s.l.length new = s.wrote wr new := by
  unfold S.wroteAt S.wrote fillL
  rw [← upds_len wr s, List.take_length, List.drop_eq_nil_of_le (by omega), List.append_nil]
theorem upd_get (s : S) (r : Ref) (o : Ob) (q : Ref) : (s.upd r o).get q = if q = r ∧ (s.get r).isSome = true then some o else s.get q := by
  cases h : s.get r with
  | some o' => rw [get_upd h]; simp
  | none =>
    rw [if_neg (by simp)]
    cases r with
    | loc i =>
      have : s.l.length ≤ i := List.getElem?_eq_none_iff.1 h
      simp only [S.upd, List.set_eq_of_length_le this]
    | out i =>
      have : s.o.length ≤ i := List.getElem?_eq_none_iff.1 h
      simp only [S.upd, List.set_eq_of_length_le this]
/-- The last write of a name. -/
def lastW (r : Ref) : List (Ref × Ob) → Option Ob
  | [] => none
  | (q, o) :: l => match lastW r l with
    | some x => some x
    | none => if r = q then some o else none
theorem upds_get : ∀ (wr : List (Ref × Ob)) (s : S) (q : Ref), (s.upds wr).get q = match s.get q, lastW q wr with | some _, some o => some o | x, _ => x
  | [], s, q => by simp only [S.upds, lastW]; cases s.get q <;> rfl
  | (r, o) :: wr, s, q => by
    rw [S.upds, upds_get wr, upd_get]
    simp only [lastW]
    by_cases e : q = r
    · subst e
      cases hq : s.get q with
      | none => simp
      | some x => cases lastW q wr <;> simp
    · simp only [e, false_and, if_false]
      cases lastW q wr <;> rfl
theorem wroteAt_get {s : S} {wr : List (Ref × Ob)} {base : Nat} {new : List Ob} (hb : base ≤ s.l.length) (q : Ref) :
    (s.wroteAt wr base new).get q = match q with
      | .loc i => if base ≤ i ∧ i < base + new.length then new[i - base]? else (s.upds wr).get q
      | .out _ => (s.upds wr).get q := by
  cases q with
  | loc i =>
    show (fillL (s.upds wr).l base new)[i]? = _
    rw [fillL_get (by rw [upds_len]; exact hb)]
    rfl
  | out i => rfl
theorem lastW_some {r : Ref} {o : Ob} : ∀ {l : List (Ref × Ob)}, lastW r l = some o → (r, o) ∈ l
  | [], h => by cases h
  | (q, x) :: l, h => by
    simp only [lastW] at h
    split at h
    · cases h; exact .tail _ (lastW_some ‹_›)
    · split at h
      · cases h; subst ‹r = q›; exact .head _
      · cases h
theorem lastW_none {r : Ref} : ∀ {l : List (Ref × Ob)}, lastW r l = none → ∀ o, (r, o) ∉ l
  | [], h, o => by simp
  | (q, x) :: l, h, o => by
    simp only [lastW] at h
    split at h
    · cases h
    · split at h
      · cases h
      · rename_i h1 h2
        rintro (_ | ⟨_, hm⟩)
        · exact h2 rfl
        · exact lastW_none h1 o hm
theorem lastW_append (r : Ref) (k : List (Ref × Ob)) : ∀ l : List (Ref × Ob), lastW r (l ++ k) = match lastW r k with | some x => some x | none => lastW r l
  | [] => by simp only [List.nil_append, lastW]; cases lastW r k <;> rfl
  | (q, x) :: l => by
    simp only [List.cons_append, lastW, lastW_append r k l]
    cases lastW r k <;> rfl
theorem lastW_gone {r : Ref} : ∀ {G : List Ref}, lastW r (G.map (·, Ob.gone)) = if r ∈ G then some .gone else none
  | [] => by simp [lastW]
  | q :: G => by
    simp only [List.map_cons, lastW, lastW_gone (G := G)]
    by_cases h : r ∈ G
    · simp [h]
    · by_cases e : r = q
      · subst e; simp [h]
      · simp [h, e]
theorem lastW_zip : ∀ {m : List Ref} {os : List Ob} (i : Nat) (r : Ref), m.Nodup → m[i]? = some r → lastW r (m.zip os) = os[i]?
  | [], os, i, r, _, h => by simp at h
  | q :: m, [], i, r, _, h => by simp [lastW]
  | q :: m, o :: os, i, r, hn, h => by
    obtain ⟨hq, hn⟩ := List.nodup_cons.1 hn
    simp only [List.zip_cons_cons, lastW]
    cases i with
    | zero =>
      simp at h
      subst h
      have : lastW q (m.zip os) = none := by
        cases hl : lastW q (m.zip os) with
        | none => rfl
        | some x => exact absurd (List.of_mem_zip (lastW_some hl)).1 hq
      rw [this]; simp
    | succ i =>
      have h : m[i]? = some r := by simpa using h
      have hne : r ≠ q := fun e => hq (e ▸ List.mem_of_getElem? h)
      rw [lastW_zip i r hn h, List.getElem?_cons_succ]
      cases hos : os[i]? with
      | none => simp [hne]
      | some x => simp
theorem lastW_zip_none {m : List Ref} {os : List Ob} {r : Ref} (h : r ∉ m) : lastW r (m.zip os) = none := by
  cases hl : lastW r (m.zip os) with
  | none => rfl
  | some x => exact absurd (List.of_mem_zip (lastW_some hl)).1 h
theorem renOb_live {o o' : Ob} (h : renOb ρ o = some o') : o ≠ .hole ∧ o' ≠ .hole := by
  cases o with
  | box e cs => obtain ⟨_, _, rfl⟩ := Option.map_eq_some_iff.1 h; simp
  | map es => obtain ⟨_, _, rfl⟩ := Option.map_eq_some_iff.1 h; simp
  | tok e sz n => cases h; simp
  | pmap es => cases h; simp
  | iter t n => cases h; simp
  | hole => cases h
  | gone => cases h; simp
theorem renOb_tok {o : Ob} {e : TypeId} {sz n : Nat} (h : renOb ρ o = some (.tok e sz n)) : o = .tok e sz n := by
  cases o with
  | box e cs => obtain ⟨_, _, h⟩ := Option.map_eq_some_iff.1 h; cases h
  | map es => obtain ⟨_, _, h⟩ := Option.map_eq_some_iff.1 h; cases h
  | tok e sz n => cases h; rfl
  | pmap es => cases h
  | iter t n => cases h
  | hole => cases h
  | gone => cases h
theorem without_nil (ob : Ref → Option Ob) : without [] ob = ob := rfl
/-- What is under a name behind a call: out of the callee's objects (the place), or as it was. -/
def place (m : List Ref) (base n : Nat) (r : Ref) : Option Nat := match posR r m with
  | some i => some i
  | none => match r with
    | .loc i => if base ≤ i ∧ i < base + n then some (m.length + (i - base)) else none
    | .out _ => none
theorem place_inj {m : List Ref} {base n : Nat} {r q : Ref} {i : Nat} (h1 : place m base n r = some i) (h2 : place m base n q = some i) : r = q := by
  have key : ∀ {r : Ref} {i : Nat}, place m base n r = some i → (m[i]? = some r ∧ i < m.length) ∨ (m.length ≤ i ∧ r = .loc (base + (i - m.length))) := by
    intro r i h
    unfold place at h
    split at h
    · cases h
      have := posR_some ‹_›
      exact .inl ⟨this, (List.getElem?_eq_some_iff.1 this).1⟩
    · split at h
      · rename_i j
        split at h
        · cases h
          refine .inr ⟨by omega, ?_⟩
          congr 1
          omega
        · cases h
      · cases h
  rcases key h1 with ⟨a1, a2⟩ | ⟨a1, a2⟩ <;> rcases key h2 with ⟨b1, b2⟩ | ⟨b1, b2⟩
  · rw [a1] at b1; exact Option.some.inj b1
  · omega
  · omega
  · rw [a2, b2]
theorem posR_of {m : List Ref} {i : Nat} {r : Ref} (hn : m.Nodup) (h : m[i]? = some r) : posR r m = some i := by
  cases hp : posR r m with
  | none => exact absurd (List.mem_of_getElem? h) (posR_none hp)
  | some j =>
    have := posR_some hp
    have hi := (List.getElem?_eq_some_iff.1 h)
    have hj := (List.getElem?_eq_some_iff.1 this)
    have : i = j := (List.getElem?_inj hi.1 hn).1 (h.trans this.symm)
    rw [this]
/-- A call, seen by the caller: into the callee's names, and out of them. -/
theorem call_both (hr : RelO N outs E s.get w) {args1 : List V} {us : List Value} {G m : List Ref} {objs objs' os : List Ob} {as1 : List V} {out out' : Out} {base : Nat}
    (hv : Pv w ⟨E.b, E.v, stG E s.get G⟩ (without G s.get) args1 us) (hm : m.Nodup) (ho : mapO (fun r => (without G s.get r).bind (renOb (toOut m))) m = some objs) (ha : mapO (renV1 (toOut m)) args1 = some as1)
    (hlen : m.length ≤ objs'.length) (hos : mapO (renOb (back m base)) objs' = some os) (hout : renOut (back m base) out = some out')
    (hb : base ≤ s.l.length) (hfree : ∀ i, base ≤ i → i < base + (os.drop m.length).length → s.get (.loc i) = none ∨ s.get (.loc i) = some .hole) :
    ∃ E2, RelO w.heap.size (ownBy E2 objs) E2 (obOf objs) w ∧ Pv w E2 (obOf objs) as1 us ∧ (∀ x u, R1 w ⟨E.b, E.v, stG E s.get G⟩ (without G s.get) (.c x) u → refsC x = [] → R1 w E2 (obOf objs) (.c x) u) ∧ ∀ e w', CallPost w E2 objs objs' out e w' → ∃ E', RelO N outs E' (s.wroteAt (G.map (·, .gone) ++ m.zip os) base (os.drop m.length)).get w' ∧ Le w E s.get w' E' (s.wroteAt (G.map (·, .gone) ++ m.zip os) base (os.drop m.length)).get ∧
      Fr N outs w w' ∧ Sn N outs E E' ∧ OutR w' E' (s.wroteAt (G.map (·, .gone) ++ m.zip os) base (os.drop m.length)).get out' e := by
  have hr1 := freeze_o hr G
  have hle1 := freeze_le E s.get G w
  have hsn1 := freeze_sn hr G
  obtain ⟨ob1, hob1⟩ : ∃ ob1, ob1 = without G s.get := ⟨_, rfl⟩
  obtain ⟨st1, hst1⟩ : ∃ st1, st1 = stG E s.get G := ⟨_, rfl⟩
  rw [← hob1, ← hst1] at hr1 hle1 hv
  rw [← hst1] at hsn1
  rw [← hob1] at ho
  obtain ⟨o1, o2⟩ := mapO_get ho
  obtain ⟨p1, p2⟩ := mapO_get hos
  -- the callee's names
  let E2 : Env := ⟨fun r => match r with | .out i => (match m[i]? with | some q => E.b q | none => 0) | .loc _ => 0, fun r => match r with | .out i => (match m[i]? with | some q => E.v q | none => undef) | .loc _ => undef, st1⟩
  have hE2 : ∀ i q, m[i]? = some q → E2.b (.out i) = E.b q ∧ E2.v (.out i) = E.v q := fun i q h => by simp only [E2, h]; exact ⟨trivial, trivial⟩
  have hobj : ∀ i o, objs[i]? = some o → ∃ q o0, m[i]? = some q ∧ ob1 q = some o0 ∧ renOb (toOut m) o0 = some o := fun i o h => by
    obtain ⟨q, hq, h2⟩ := o2 i o h
    obtain ⟨o0, h3, h4⟩ := Option.bind_eq_some_iff.1 h2
    exact ⟨q, o0, hq, h3, h4⟩
  have hobj' : ∀ (i : Nat) (q : Ref), m[i]? = some q → ∃ o0 o, ob1 q = some o0 ∧ renOb (toOut m) o0 = some o ∧ objs[i]? = some o := fun i q h => by
    obtain ⟨o, h1, h2⟩ := mapO_get' ho i q h
    obtain ⟨o0, h3, h4⟩ := Option.bind_eq_some_iff.1 h2
    exact ⟨o0, o, h3, h4, h1⟩
  have hrn : Rn (toOut m) ⟨E.b, E.v, st1⟩ ob1 E2 (obOf objs) := by
    refine ⟨fun r r' hr' hl => ?_, rfl⟩
    obtain ⟨i, hi, rfl⟩ := Option.map_eq_some_iff.1 hr'
    have hmi := posR_some hi
    obtain ⟨o0, o, h1, h2, h3⟩ := hobj' i r hmi
    refine ⟨⟨o, h3, (renOb_live h2).2⟩, (hE2 i r hmi).1, (hE2 i r hmi).2, fun e sz n he => ?_⟩
    rw [show obOf objs (.out i) = some o from h3] at he
    cases he
    rw [h1, renOb_tok h2]
  have hr2 : RelO w.heap.size (ownBy E2 objs) E2 (obOf objs) w := by
    refine hr1.ren hrn (fun r => match r with | .out i => (m[i]?).getD (.out 0) | r => r) (fun r' o' h => ?_) (fun r1 r2 x1 x2 h1 h2 he => ?_) (Nat.le_refl _) (fun r' o' k h hk => ?_)
    · cases r' with
      | loc i => cases h
      | out i =>
        obtain ⟨q, o0, h1, h2, h3⟩ := hobj i o' h
        simp only [h1, Option.getD_some]
        exact ⟨o0, h2, h3, (hE2 i q h1).1, (hE2 i q h1).2⟩
    · cases r1 with
      | loc i => cases h1
      | out i =>
        cases r2 with
        | loc j => cases h2
        | out j =>
          obtain ⟨q, _, a1, _⟩ := hobj i x1 h1
          obtain ⟨q', _, a2, _⟩ := hobj j x2 h2
          simp only [a1, a2, Option.getD_some] at he
          subst he
          have := posR_of hm a1
          rw [posR_of hm a2] at this
          cases this
          rfl
    · cases r' with
      | loc i => cases h
      | out i => exact .inr ⟨i, o', h, hk⟩
  refine ⟨E2, hr2, Pv.ren hrn ha hv, fun x u hx hxr => ?_, fun e w' => ?_⟩
  · rw [← hob1, ← hst1] at hx
    have hrx : renC (toOut m) x = some x := by
      cases x with
      | fn f caps => have : caps = [] := hxr; subst this; rfl
      | d x => rfl
      | rp cs => rfl
      | dead => rfl
      | _ => cases hxr
    exact ⟨hx.1.ren hrn hrx, hx.2⟩
  rintro ⟨E3, hr3, hle3, hfr3, hsn3, hO⟩
  -- the caller's names again
  have hml : m.length ≤ os.length := by rw [p1]; exact hlen
  obtain ⟨n, hn⟩ : ∃ n, n = (os.drop m.length).length := ⟨_, rfl⟩
  rw [← hn] at hfree
  have hnm : ∀ i, base ≤ i → i < base + n → (Ref.loc i) ∉ m := by
    intro i h1 h2 hmem
    obtain ⟨j, hj⟩ := List.mem_iff_getElem?.1 hmem
    obtain ⟨o0, o, a1, a2, _⟩ := hobj' j _ hj
    rw [hob1] at a1
    rcases without_get a1 with ⟨_, _, o', h', hne⟩ | ⟨_, h'⟩
    · rcases hfree i h1 h2 with h | h
      · rw [h] at h'; cases h'
      · rw [h] at h'; cases h'; exact hne rfl
    · rcases hfree i h1 h2 with h | h
      · rw [h] at h'; cases h'
      · rw [h] at h'; cases h'; exact (renOb_live a2).1 rfl
  obtain ⟨s', hs'⟩ : ∃ s', s' = s.wroteAt (G.map (·, .gone) ++ m.zip os) base (os.drop m.length) := ⟨_, rfl⟩
  rw [← hs']
  have hpl : ∀ (i : Nat) (r : Ref), m[i]? = some r → place m base n r = some i := fun i r h => by unfold place; rw [posR_of hm h]
  have hpn : ∀ j, j < n → place m base n (.loc (base + j)) = some (m.length + j) := fun j hj => by
    have : posR (.loc (base + j)) m = none := by
      cases hp : posR (.loc (base + j)) m with
      | none => rfl
      | some i => exact absurd (List.mem_of_getElem? (posR_some hp)) (hnm _ (by omega) (by omega))
    unfold place
    rw [this]
    simp only []
    rw [if_pos ⟨by omega, by omega⟩]
    congr 2
    omega
  have hgs : ∀ (i : Nat) (r : Ref), m[i]? = some r → ∃ o, s.get r = some o ∧ o ≠ .hole := fun i r h => by
    obtain ⟨o0, o, a1, a2, _⟩ := hobj' i r h
    rw [hob1] at a1
    rcases without_get a1 with ⟨_, _, o', h', hne⟩ | ⟨_, h'⟩
    · exact ⟨o', h', hne⟩
    · exact ⟨o0, h', (renOb_live a2).1⟩
  -- what lies under a name behind the call
  have hG' : ∀ r i, place m base n r = some i → s'.get r = os[i]? := by
    intro r i h
    unfold place at h
    split at h
    · rename_i j hj
      cases h
      have hmj := posR_some hj
      obtain ⟨o, ho1, ho2⟩ := hgs i r hmj
      have hu : (s.upds (G.map (·, .gone) ++ m.zip os)).get r = os[i]? := by
        have hil : i < os.length := Nat.lt_of_lt_of_le (List.getElem?_eq_some_iff.1 hmj).1 hml
        rw [upds_get, ho1, lastW_append, lastW_zip i r hm hmj, List.getElem?_eq_getElem hil]
      rw [hs', wroteAt_get hb]
      cases r with
      | out k => exact hu
      | loc k =>
        simp only []
        rw [if_neg (fun hk => hnm k hk.1 (by omega) (List.mem_of_getElem? hmj))]
        exact hu
    · split at h
      · rename_i k
        split at h
        · rename_i hk
          cases h
          rw [hs', wroteAt_get hb]
          simp only []
          rw [if_pos (by omega), List.getElem?_drop]
        · cases h
      · cases h
  have hGn : ∀ r, place m base n r = none → s'.get r = match s.get r with | some o => some (if r ∈ G then .gone else o) | none => none := by
    intro r h
    unfold place at h
    split at h
    · cases h
    · rename_i hp
      have hnr := posR_none hp
      have hu : (s.upds (G.map (·, .gone) ++ m.zip os)).get r = match s.get r with | some o => some (if r ∈ G then .gone else o) | none => none := by
        rw [upds_get, lastW_append, lastW_zip_none hnr, lastW_gone]
        cases s.get r with
        | none => rfl
        | some o => by_cases hg : r ∈ G <;> simp [hg]
      rw [hs', wroteAt_get hb]
      cases r with
      | out k => exact hu
      | loc k =>
        simp only [] at h ⊢
        split at h
        · cases h
        · rename_i hk
          rw [if_neg (by rw [← hn]; exact hk)]
          exact hu
  let E4 : Env := ⟨fun r => match place m base n r with | some i => E3.b (.out i) | none => E.b r, fun r => match place m base n r with | some i => E3.v (.out i) | none => E.v r, E3.st⟩
  have hE4 : ∀ r i, place m base n r = some i → E4.b r = E3.b (.out i) ∧ E4.v r = E3.v (.out i) := fun r i h => by simp only [E4, h]; exact ⟨trivial, trivial⟩
  have hE4n : ∀ r, place m base n r = none → E4.b r = E.b r ∧ E4.v r = E.v r := fun r h => by simp only [E4, h]; exact ⟨trivial, trivial⟩
  -- a live name of the caller's that is at a place is one that was handed in
  have hold : ∀ r i, live s.get r → place m base n r = some i → m[i]? = some r := by
    intro r i hl h
    unfold place at h
    split at h
    · cases h; exact posR_some ‹_›
    · split at h
      · rename_i k _
        split at h
        · rename_i hk
          obtain ⟨o, ho1, ho2⟩ := hl
          rcases hfree k hk.1 hk.2 with h' | h'
          · rw [h'] at ho1; cases ho1
          · rw [h'] at ho1; cases ho1; exact absurd rfl ho2
        · cases h
      · cases h
  have hlive2 : ∀ (i : Nat) (r : Ref), m[i]? = some r → live (obOf objs) (.out i) := fun i r h => by
    obtain ⟨_, o, _, a2, a3⟩ := hobj' i r h
    exact ⟨o, a3, (renOb_live a2).2⟩
  have hbE : ∀ (i : Nat) (r : Ref), m[i]? = some r → E3.b (.out i) = E.b r := fun i r h => by rw [hle3.b _ (hlive2 i r h)]; exact (hE2 i r h).1
  have hle : Le w E s.get w' E4 s'.get := by
    refine ⟨fun b o h => hle3.st b o (hle1.st b o h), fun b o h => hle3.cell b o (hle1.st b o h), fun r hl => ?_, fun r hl => ?_, fun r e sz n' hl he => ?_⟩
    · cases hp : place m base n r with
      | some i =>
        have hmi := hold r i hl hp
        have := hle3.live _ (hlive2 i r hmi)
        obtain ⟨o3, h3, h3'⟩ := this
        obtain ⟨o4, h4, h4'⟩ := mapO_get' hos i o3 h3
        exact ⟨o4, by rw [hG' r i hp]; exact h4, (renOb_live h4').2⟩
      | none =>
        obtain ⟨o, ho1, ho2⟩ := hl
        refine ⟨_, by rw [hGn r hp, ho1], ?_⟩
        split
        · simp
        · exact ho2
    · cases hp : place m base n r with
      | some i => rw [(hE4 r i hp).1, hbE i r (hold r i hl hp)]
      | none => exact (hE4n r hp).1
    · cases hp : place m base n r with
      | some i =>
        have hmi := hold r i hl hp
        rw [hG' r i hp] at he
        obtain ⟨o3, h3, h3'⟩ := p2 i _ he
        have h3 : obOf objs' (.out i) = some (.tok e sz n') := by rw [show obOf objs' (.out i) = objs'[i]? from rfl, h3, renOb_tok h3']
        obtain ⟨n0, k1, k2, k3⟩ := hle3.tok _ e sz n' (hlive2 i r hmi) h3
        obtain ⟨o0, o, a1, a2, a3⟩ := hobj' i r hmi
        have : o = .tok e sz n0 := by
          have k1 : objs[i]? = some (.tok e sz n0) := k1
          rw [a3] at k1
          exact Option.some.inj k1
        subst this
        have := renOb_tok a2
        subst this
        rw [hob1] at a1
        rcases without_get a1 with ⟨_, hc, _⟩ | ⟨_, h'⟩
        · cases hc
        · exact ⟨n0, h', k2, fun hnn => by rw [(hE4 r i hp).2, k3 hnn, (hE2 i r hmi).2]⟩
      | none =>
        obtain ⟨o, ho1, ho2⟩ := hl
        rw [hGn r hp, ho1] at he
        simp only [Option.some.injEq] at he
        split at he
        · cases he
        · subst he
          exact ⟨n', ho1, Nat.le_refl _, fun _ => (hE4n r hp).2⟩
  have hrn4 : Rn (back m base) E3 (obOf objs') E4 s'.get := by
    refine ⟨fun r r' h hl => ?_, rfl⟩
    cases r with
    | loc i => cases h
    | out i =>
      have hil : i < objs'.length := by obtain ⟨o, ho, _⟩ := hl; exact (List.getElem?_eq_some_iff.1 ho).1
      have hp : place m base n r' = some i := by
        simp only [back] at h
        split at h
        · rename_i q hq
          cases h
          exact hpl i _ hq
        · rename_i hnone
          cases h
          have h1 : m.length ≤ i := List.getElem?_eq_none_iff.1 hnone
          have h2 : i - m.length < n := by rw [hn, List.length_drop, p1]; omega
          rw [hpn _ h2]
          congr 1
          omega
      obtain ⟨o, ho, hne⟩ := hl
      obtain ⟨o4, h4, h4'⟩ := mapO_get' hos i o ho
      refine ⟨⟨o4, by rw [hG' r' i hp]; exact h4, (renOb_live h4').2⟩, (hE4 r' i hp).1, (hE4 r' i hp).2, fun e sz n' he => ?_⟩
      rw [hG' r' i hp, h4] at he
      cases he
      show objs'[i]? = _
      rw [show objs'[i]? = some o from ho, renOb_tok h4']
  have hown : ∀ k, ownBy E2 objs k → ∃ (r : Ref) (o : Ob) (i : Nat), m[i]? = some r ∧ s.get r = some o ∧ blk E r o = some k ∧ r ∉ G := by
    rintro k ⟨i, o, h1, h2⟩
    obtain ⟨q, o0, a1, a2, a3⟩ := hobj i o h1
    rw [blk_ren (ρ := toOut m) (E := E) (r := q) (hE2 i q a1).1 (hE2 i q a1).2 a3] at h2
    rw [hob1] at a2
    rcases without_get a2 with ⟨_, rfl, _⟩ | ⟨hG, h'⟩
    · cases h2
    · refine ⟨q, o0, i, a1, h', h2, ?_⟩
      rcases hG with hG | rfl
      · exact hG
      · cases h2
  have hS : ∀ r o i k, place m base n r = some i → s'.get r = some o → blk E4 r o = some k → ∃ o3, obOf objs' (.out i) = some o3 ∧ blk E3 (.out i) o3 = some k := by
    intro r o i k hp ho hk
    rw [hG' r i hp] at ho
    obtain ⟨o3, h3, h3'⟩ := p2 i o ho
    exact ⟨o3, h3, by rw [← hk]; exact (blk_ren (hE4 r i hp).1 (hE4 r i hp).2 h3').symm⟩
  have hNn : ∀ r o k, place m base n r = none → s'.get r = some o → blk E4 r o = some k → s.get r = some o ∧ r ∉ G ∧ blk E r o = some k ∧ k < w.heap.size ∧ ¬ ownBy E2 objs k := by
    intro r o k hp ho hk
    rw [hGn r hp] at ho
    cases hg : s.get r with
    | none => rw [hg] at ho; cases ho
    | some o0 =>
      rw [hg] at ho
      simp only [Option.some.injEq] at ho
      by_cases hrG : r ∈ G
      · rw [if_pos hrG] at ho; subst ho; cases hk
      · rw [if_neg hrG] at ho
        subst ho
        have hk' : blk E r o0 = some k := by
          rw [← hk]
          cases o0 <;> simp [blk, (hE4n r hp).1, (hE4n r hp).2]
        refine ⟨rfl, hrG, hk', blk_lt (hr.objs r o0 hg) hk', fun hw => ?_⟩
        obtain ⟨q, oq, j, h1, h2, h3, _⟩ := hown k hw
        have := hr.apart q r oq o0 k h2 hg h3 hk'
        subst this
        rw [hpl j q h1] at hp
        cases hp
  refine ⟨E4, ⟨fun r o ho => ?_, fun r r' o o' k h1 h2 k1 k2 => ?_, fun r o k h1 k1 => ?_, fun b o h => hr3.has b o h, Nat.le_trans hr.low hfr3.size⟩, hle,
    ⟨hfr3.os, hfr3.tape, hfr3.output, hfr3.size, fun k hk ho => hfr3.block k (by have := hr.low; omega) (fun hw => ?_)⟩, fun b x hx => ?_, ?_⟩
  · cases hp : place m base n r with
    | some i =>
      rw [hG' r i hp] at ho
      obtain ⟨o3, h3, h3'⟩ := p2 i o ho
      exact (hr3.objs (.out i) o3 h3).ren hrn4 (hE4 r i hp).1 (hE4 r i hp).2 h3'
    | none =>
      have ho' := ho
      rw [hGn r hp] at ho
      cases hg : s.get r with
      | none => rw [hg] at ho; cases ho
      | some o0 =>
        rw [hg] at ho
        simp only [Option.some.injEq] at ho
        by_cases hrG : r ∈ G
        · rw [if_pos hrG] at ho; subst ho; trivial
        · rw [if_neg hrG] at ho
          subst ho
          have hkk : ∀ k, blk E r o0 = some k → k < w.heap.size ∧ ¬ ownBy E2 objs k := fun k hk => by
            have hk' : blk E4 r o0 = some k := by
              rw [← hk]
              cases o0 <;> simp [blk, (hE4n r hp).1, (hE4n r hp).2]
            exact (hNn r o0 k hp ho' hk').2.2.2
          refine Ro_keep hle (hE4n r hp).1 (hE4n r hp).2 (fun k hk => hfr3.block k (hkk k hk).1 (hkk k hk).2) (fun k hk x hx => ?_) (hr.objs r o0 hg)
          rcases hsn3 k x hx with h | h | h
          · have h : st1 k x := h
            rw [hst1] at h
            rcases h with h | ⟨q, hq, e, cs, hqo, hqb, _⟩
            · exact h
            · have := hr.apart q r _ o0 k hqo hg (by rw [hqb]; rfl) hk
              subst this
              exact absurd hq hrG
          · have := (hkk k hk).1; omega
          · exact absurd h (hkk k hk).2
  · cases hp : place m base n r with
    | some i =>
      obtain ⟨o3, h3, h3'⟩ := hS r o i k hp h1 k1
      cases hp' : place m base n r' with
      | some i' =>
        obtain ⟨o4, h4, h4'⟩ := hS r' o' i' k hp' h2 k2
        have := hr3.apart _ _ _ _ k h3 h4 h3' h4'
        cases this
        exact place_inj hp hp'
      | none =>
        obtain ⟨_, _, _, q1, q2⟩ := hNn r' o' k hp' h2 k2
        rcases hr3.mine _ _ k h3 h3' with h | h
        · omega
        · exact absurd h q2
    | none =>
      obtain ⟨a1, _, a3, q1, q2⟩ := hNn r o k hp h1 k1
      cases hp' : place m base n r' with
      | some i' =>
        obtain ⟨o4, h4, h4'⟩ := hS r' o' i' k hp' h2 k2
        rcases hr3.mine _ _ k h4 h4' with h | h
        · omega
        · exact absurd h q2
      | none =>
        obtain ⟨b1, _, b3, _⟩ := hNn r' o' k hp' h2 k2
        exact hr.apart r r' o o' k a1 b1 a3 b3
  · cases hp : place m base n r with
    | some i =>
      obtain ⟨o3, h3, h3'⟩ := hS r o i k hp h1 k1
      rcases hr3.mine _ _ k h3 h3' with h | h
      · exact .inl (Nat.le_trans hr.low h)
      · obtain ⟨q, oq, j, _, g2, g3, _⟩ := hown k h
        exact hr.mine q oq k g2 g3
    | none =>
      obtain ⟨a1, _, a3, _⟩ := hNn r o k hp h1 k1
      exact hr.mine r o k a1 a3
  · obtain ⟨q, oq, j, _, g2, g3, _⟩ := hown k hw
    rcases hr.mine q oq k g2 g3 with h | h
    · omega
    · exact ho h
  · rcases hsn3 b x hx with h | h | h
    · exact hsn1 b x h
    · exact .inr (.inl (Nat.le_trans hr.low h))
    · obtain ⟨q, oq, j, _, g2, g3, _⟩ := hown b h
      exact .inr (hr.mine q oq b g2 g3)
  · cases out with
    | ret v =>
      obtain ⟨v', hv', rfl⟩ := Option.map_eq_some_iff.1 hout
      cases e with
      | returned u => exact Rv.ren hrn4 hv' hO
      | _ => exact hO.elim
    | pan x =>
      obtain ⟨x', hx', rfl⟩ := Option.map_eq_some_iff.1 hout
      cases e with
      | panicked ch =>
        obtain ⟨u, h1, h2⟩ := hO
        exact ⟨u, h1, h2.1.ren hrn4 hx', fun hd => h2.2 (renC_dead hx' hd)⟩
      | _ => exact hO.elim
theorem call_main {orc : Orc} (ok : OKo P orc) (hr : RelO N outs E s.get w) {f : FuncId} {args1 : List V} {us : List Value} {G m : List Ref} {objs objs' os : List Ob} {as1 : List V} {out out' : Out} {base : Nat}
    (hv : Pv w ⟨E.b, E.v, stG E s.get G⟩ (without G s.get) args1 us) (hm : m.Nodup) (ho : mapO (fun r => (without G s.get r).bind (renOb (toOut m))) m = some objs) (ha : mapO (renV1 (toOut m)) args1 = some as1)
    (horc : orc f as1 objs = some (out, objs')) (hlen : m.length ≤ objs'.length) (hos : mapO (renOb (back m base)) objs' = some os) (hout : renOut (back m base) out = some out')
    (hb : base ≤ s.l.length) (hfree : ∀ i, base ≤ i → i < base + (os.drop m.length).length → s.get (.loc i) = none ∨ s.get (.loc i) = some .hole) :
    Does P f us w fun e w' => ∃ E', RelO N outs E' (s.wroteAt (G.map (·, .gone) ++ m.zip os) base (os.drop m.length)).get w' ∧ Le w E s.get w' E' (s.wroteAt (G.map (·, .gone) ++ m.zip os) base (os.drop m.length)).get ∧
      Fr N outs w w' ∧ Sn N outs E E' ∧ OutR w' E' (s.wroteAt (G.map (·, .gone) ++ m.zip os) base (os.drop m.length)).get out' e := by
  obtain ⟨E2, h1, h2, _, h3⟩ := call_both hr hv hm ho ha hlen hos hout hb hfree
  exact (ok f as1 objs out objs' horc w E2 us h1 h2).mono h3
end
end Go.Vx
namespace Go.Vx
open Go Go.RowKit
section
variable {P : Program} {ti : TI} {N N' : Nat} {outs outs' : Nat → Prop} {E E' : Env} {s : S} {a : Act} {w w' : World} {ob ob' : Ref → Option Ob} {ρ : Ref → Option Ref} {orc : Orc} {cf : Cfg}

theorem frV_list (hr : RelO N outs E ob w) {G : List Ref} {vs : List V} {us : List Value} (hv : Pv w E ob vs us) : Pv w ⟨E.b, E.v, stG E ob G⟩ (without G ob) (vs.map (frV ti (only G ob))) us :=
  ⟨by simp [hv.1], fun j x hx => by
    rw [List.getElem?_map] at hx
    obtain ⟨x', hx', rfl⟩ := Option.map_eq_some_iff.1 hx
    obtain ⟨y, hy, hR⟩ := hv.2 j x' hx'
    exact ⟨y, hy, frV_sound hr hR⟩⟩
theorem reach_nodup0 {get : Ref → Option Ob} {keep : Ref → Bool} {n i : Nat} {l : List Ref} : (reach get keep n i (addR [] l)).Nodup := reach_nodup (addR_nodup (by simp))
theorem withoutL_eq (G : List Ref) (get : Ref → Option Ob) : withoutL G get = without G get := by cases G <;> rfl
theorem goOver_sound (hr : RelO N outs E ob w) {G : List Ref} {f : FuncId} {ts : List TypeId} {vs : List V} {us : List Value} (hv : Pv w E ob vs us) : Pv w ⟨E.b, E.v, stG E ob G⟩ (without G ob) (goOver cf ob f ts G vs) us := by
  unfold goOver
  cases cf.kp f with
  | true => exact hv.le (freeze_le E ob G w)
  | false => exact stripL_sound (frV_list hr hv)
theorem callEff_sound (ok : OKo P orc) (hr : RelO N outs E s.get w) {f : FuncId} {args : List V} {us : List Value} {base : Nat} {out : Out} {wr : List (Ref × Ob)} {new : List Ob} (hv : Pv w E s.get args us)
    (h : callEff cf orc s.get base f args = some (out, wr, new)) (hb : base ≤ s.l.length) (hfree : ∀ i, base ≤ i → i < base + new.length → s.get (.loc i) = none ∨ s.get (.loc i) = some .hole) :
    Does P f us w fun e w' => ∃ E', RelO N outs E' (s.wroteAt wr base new).get w' ∧ Le w E s.get w' E' (s.wroteAt wr base new).get ∧ Fr N outs w w' ∧ Sn N outs E E' ∧ OutR w' E' (s.wroteAt wr base new).get out e := by
  unfold callEff at h
  simp only [withoutL_eq] at h
  obtain ⟨G, hG⟩ : ∃ G, G = heldBy cf s.get f args := ⟨_, rfl⟩
  rw [← hG] at h
  obtain ⟨args1, ha1⟩ : ∃ args1, args1 = goOver cf s.get f (paramsOf cf f) G args := ⟨_, rfl⟩
  rw [← ha1] at h
  have hv1 : Pv w ⟨E.b, E.v, stG E s.get G⟩ (without G s.get) args1 us := by rw [ha1]; exact goOver_sound hr hv
  obtain ⟨m, hm⟩ : ∃ m, m = reach (without G s.get) (fun _ => true) 64 0 (addR [] (args1.flatMap refsV1)) := ⟨_, rfl⟩
  rw [← hm] at h
  split at h
  case h_2 => cases h
  rename_i objs as1 ho ha
  split at h
  case h_2 => cases h
  rename_i out0 objs' horc
  split at h
  case isFalse => cases h
  rename_i hlen
  split at h
  case h_2 => cases h
  rename_i os out' hos hout
  cases h
  exact call_main ok hr hv1 (by rw [hm]; exact reach_nodup0) ho ha horc hlen hos hout hb hfree
end
end Go.Vx
namespace Go.Vx
open Go Go.RowKit
section
variable {P : Program} {ti : TI} {N N' : Nat} {outs outs' : Nat → Prop} {E E' : Env} {s : S} {a : Act} {w w' : World} {ob ob' : Ref → Option Ob} {ρ : Ref → Option Ref} {orc : Orc} {cf : Cfg} {ops : Array Oper}

theorem put_get (s : S) (d : Option Tmp) (v : V) : (s.put d v).get = s.get := by cases d <;> rfl
theorem rel_put (hr : Rel N outs E s a w) {v : V} {u : Value} (hv : Rv w E s.get v u) (d : Option Tmp) : Rel N outs E (s.put d v) (a.put d u) w := by
  have hg := put_get s d v
  refine Rel.of (by rw [hg]; exact hr.o) (fun i x hx => ?_) ?_ ?_
  · rw [hg]
    cases d with
    | none => exact hr.tmps i x hx
    | some d =>
      simp only [S.put, List.getElem?_set] at hx
      simp only [Act.put, Array.getElem?_setIfInBounds]
      by_cases e : d = i
      · subst e
        rw [if_pos rfl] at hx ⊢
        split at hx
        · cases hx
          rw [if_pos (by rw [← hr.size]; assumption)]
          exact ⟨u, rfl, hv⟩
        · cases hx
      · rw [if_neg e] at hx ⊢
        exact hr.tmps i x hx
  · cases d <;> simp [S.put, Act.put, hr.size]
  · rw [hg]
    cases d <;> exact hr.defers
theorem want_sound (hr : Rel N outs E s a w) {o : Oper} {b : Bool} (h : wantB ops s.t o = some b) : Region.wanted o (yielded ops a.tmps) = b := by
  unfold wantB at h
  unfold Region.wanted
  cases ho : o.guard with
  | none => rw [ho] at h; cases h; rfl
  | some p =>
    obtain ⟨j, want⟩ := p
    rw [ho] at h
    simp only [] at h ⊢
    have key : ∀ y, yieldB ops s.t j = some y → yielded ops a.tmps j = y := by
      intro y hy
      unfold yieldB at hy
      unfold yielded
      split at hy
      · rename_i hd; cases hy; rw [hd]; rfl
      · rename_i d hd
        rw [hd]
        simp only [Option.bind_some]
        split at hy
        · rename_i ht
          cases hy
          have : a.tmps[d]? = none := Array.getElem?_eq_none (by rw [← hr.size]; exact List.getElem?_eq_none_iff.1 ht)
          rw [this]
        · rename_i b' ht
          cases hy
          obtain ⟨u, hu, hR⟩ := hr.tmps d _ ht
          obtain ⟨⟨n, hn⟩, -⟩ := hR
          have : u = .bool b' := by cases n <;> exact hn.1
          rw [hu, this]
        · rename_i ht
          cases hy
          obtain ⟨u, hu, us, hus, _⟩ := hr.tmps d _ ht
          rw [hu, hus]
        · cases hy
    split at h
    · rename_i b' hy
      cases h
      rw [key _ hy]
      rfl
    · rename_i hy
      cases h
      rw [key _ hy]
      rfl
    · cases h
theorem upon_of_does {f : FuncId} {us : List Value} {R : Ending → World → Prop} {o : Oper} {next : Act → World → Prop} {Q : Exit → Act → World → Prop} (h : Does P f us w R)
    (h1 : ∀ v w', R (.returned v) w' → next (a.put o.dst v) w') (h2 : ∀ ch w', R (.panicked ch) w' → Q (.panic ch) a w') (h3 : ∀ w', ¬ R .outgrown w') : o.upon P a next Q ((callFunc f us.toArray).run P w) := by
  unfold Does at h
  split at h
  · rename_i hr
    rw [hr]
    refine Calls.mono h fun e w' he => ?_
    cases e with
    | returned v => exact h1 v w' he
    | panicked ch => exact h2 ch w' he
    | outgrown => exact absurd he (h3 w')
  · rename_i hr; rw [hr]; exact h1 _ _ h
  · rename_i hr
    rw [hr]
    exact Rows.mono h fun v w' he => h1 v w' he
  · rename_i hr; rw [hr]; exact h2 _ _ h
  · exact h.elim
theorem wroteAt_nil (s : S) (base : Nat) : s.wroteAt [] base [] = s := by
  unfold S.wroteAt fillL
  simp [S.upds]
theorem wroteAt_upd (s : S) (r : Ref) (o : Ob) (base : Nat) : s.wroteAt [(r, o)] base [] = s.upd r o := by
  unfold S.wroteAt fillL
  simp [S.upds]
theorem wroteAt_t (s : S) (wr : List (Ref × Ob)) (base : Nat) (new : List Ob) : (s.wroteAt wr base new).t = s.t := by
  unfold S.wroteAt; simp [upds_t]
theorem wroteAt_d (s : S) (wr : List (Ref × Ob)) (base : Nat) (new : List Ob) : (s.wroteAt wr base new).d = s.d := by
  unfold S.wroteAt; simp [upds_d]
/-- The state behind an operation. -/
def Act1.next (s : S) (dst : Option Tmp) (base : Nat) : Act1 → S
  | .go v wr new => (s.wroteAt wr base new).put dst v
  | .dfr f args => ({ s with d := (f, args) :: s.d } : S).put dst (.tup [])
  | .pan _ wr new => s.wroteAt wr base new
theorem dfr_run (hr : Rel N outs E s a w) {o : Oper} {f : FuncId} {args : List V} (h : dfrO s.ev o.op = some (f, args)) :
    ∃ us : List Value, Pv w E s.get args us ∧ (execOp a.eval o).run P w = .ok (.defer { target := .fn (.func f) #[], args := us.toArray }) w := by
  obtain ⟨dst, op, type, pos, after, guard⟩ := o
  unfold dfrO at h
  split at h
  case h_2 => cases h
  rename_i c hop
  simp only at hop
  subst hop
  obtain ⟨callee, cargs, ctypes⟩ := c
  split at h
  case h_2 => cases h
  rename_i g hcl
  simp only at hcl
  subst hcl
  split at h
  case h_2 => cases h
  rename_i args' hargs
  cases h
  refine ⟨cargs.toList.map a.eval, evList_sound hr hargs, ?_⟩
  have e1 : (cargs.toList.map a.eval).toArray = cargs.map a.eval := by apply Array.toList_inj.1; simp
  rw [e1]
  simp [execOp, resolve, Deferred.ofValue, Act.eval]
theorem act_wp (hti : TIok P cf.ti) (hP : cf.P = P) (ok : OKo P orc) (hr : Rel N outs E s a w) {i : Nat} {o : Oper} (ho : ops[i]? = some o) {base : Nat} {act : Act1} (h : actO cf orc ops o s.t s.ev s.get base = some act)
    (hb : base ≤ s.l.length) (hfree : ∀ i, base ≤ i → i < base + act.new.length → s.get (.loc i) = none ∨ s.get (.loc i) = some .hole) {K : Act → World → Prop} {Q : Exit → Act → World → Prop}
    (hK : (∀ x wr new, act ≠ .pan x wr new) → ∀ E' a' w', Rel N outs E' (act.next s o.dst base) a' w' → Fr N outs w w' → Sn N outs E E' → Le w E s.get w' E' (act.next s o.dst base).get → K a' w')
    (hQ : ∀ x wr new, act = .pan x wr new → ∀ E' w' u, Rel N outs E' (act.next s o.dst base) a w' → Fr N outs w w' → Sn N outs E E' → Le w E s.get w' E' (act.next s o.dst base).get → R1 w' E' (act.next s o.dst base).get (.c x) u → Q (.panic [{ v := u, recovered := false }]) a w') :
    wpOp P ops Q i K a w := by
  unfold wpOp
  rw [ho]
  simp only []
  have hundef : ∀ {E : Env} {ob : Ref → Option Ob} {w : World}, Rv w E ob (.tup []) undef := ⟨[], rfl, rfl, fun j x hx => by simp at hx⟩
  unfold actO at h
  split at h
  · rename_i hw
    cases h
    rw [if_neg (by rw [want_sound hr hw]; simp)]
    refine hK (by intros; simp) E _ w ?_ (Fr.refl w) (Sn.refl E) ?_
    · show Rel N outs E ((s.wroteAt [] base []).put o.dst (.tup [])) _ w
      rw [wroteAt_nil]
      exact rel_put hr hundef _
    · show Le w E s.get w E ((s.wroteAt [] base []).put o.dst (.tup [])).get
      rw [wroteAt_nil, put_get]
      exact Le.refl _ _ _
  · rename_i hw
    rw [if_pos (want_sound hr hw)]
    refine .inl ?_
    unfold Oper.wp
    split at h
    · rename_i f args hd
      cases h
      obtain ⟨us, hus, hrun⟩ := dfr_run (P := P) (w := w) hr hd
      rw [hrun]
      have hR : Rel N outs E ({ s with d := (f, args) :: s.d } : S) { a with defers := { target := .fn (.func f) #[], args := us.toArray } :: a.defers } w := by
        refine Rel.of hr.o hr.tmps hr.size ⟨by simp [hr.defers.1], fun j p hp => ?_⟩
        cases j with
        | zero => cases hp; exact ⟨us, rfl, hus⟩
        | succ j => exact hr.defers.2 j p (by simpa using hp)
      exact hK (by intros; simp) E _ w (rel_put hR hundef _) (Fr.refl w) (Sn.refl E) (by show Le w E s.get w E (({ s with d := (f, args) :: s.d } : S).put o.dst (.tup [])).get; rw [put_get]; exact Le.refl w E s.get)
    · rename_i hnd
      split at h
      · rename_i v he
        cases h
        rw [hP] at he
        obtain ⟨u, hrun, hv⟩ : ValOk P E s a w o v := eff_sound hti hr he
        rw [hrun]
        refine hK (by intros; simp) E _ w ?_ (Fr.refl w) (Sn.refl E) ?_
        · show Rel N outs E ((s.wroteAt [] base []).put o.dst v) _ w
          rw [wroteAt_nil]
          exact rel_put hr hv _
        · show Le w E s.get w E ((s.wroteAt [] base []).put o.dst v).get
          rw [wroteAt_nil, put_get]
          exact Le.refl _ _ _
      · rename_i b f he
        cases h
        rw [hP] at he
        have hf : Free s base := ⟨hb, hfree base (Nat.le_refl _) (by simp [Act1.new])⟩
        obtain ⟨u, w', E', hrun, hR, hle, hv, hfr, hsn⟩ := (eff_sound hti hr he) base hf
        have hfin : K (a.put o.dst u) w' := hK (by intros; simp) E' _ w' (rel_put hR hv _) hfr hsn (by show Le w E s.get w' E' ((s.pushAt base b).put o.dst (f (.loc base))).get; rw [put_get]; exact hle)
        rcases hrun with hrun | ⟨hrun, rfl⟩ <;> (rw [hrun]; exact hfin)
      · rename_i r b v he
        cases h
        rw [hP] at he
        obtain ⟨u, w', E', hrun, hR, hle, hv, hfr, hsn⟩ := (eff_sound hti hr he)
        have hfin : K (a.put o.dst u) w' := hK (by intros; simp) E' _ w' (by
          show Rel N outs E' ((s.wroteAt [(r, b)] base []).put o.dst v) _ w'
          rw [wroteAt_upd]
          exact rel_put hR hv _) hfr hsn (by
          show Le w E s.get w' E' ((s.wroteAt [(r, b)] base []).put o.dst v).get
          rw [wroteAt_upd, put_get]
          exact hle)
        rcases hrun with hrun | ⟨hrun, rfl⟩ <;> (rw [hrun]; exact hfin)
      · rename_i f args he
        rw [hP] at he
        obtain ⟨us, hus, hrun⟩ := (eff_sound hti hr he)
        rw [hrun]
        have glue : ∀ {out wr new}, callEff cf orc s.get base f args = some (out, wr, new) → (∀ i, base ≤ i → i < base + new.length → s.get (.loc i) = none ∨ s.get (.loc i) = some .hole) → 
            Does P f us w fun e w' => ∃ E', Rel N outs E' (s.wroteAt wr base new) a w' ∧ (Fr N outs w w' ∧ Le w E s.get w' E' (s.wroteAt wr base new).get) ∧ Sn N outs E E' ∧ OutR w' E' (s.wroteAt wr base new).get out e := by
          intro out wr new hc hfr
          refine (callEff_sound ok hr.o hus hc hb hfr).mono fun e w' ⟨E', k1, k2, k3, k4, k5⟩ => ⟨E', Rel.of k1 (fun i x hx => ?_) (by rw [wroteAt_t]; exact hr.size) (by rw [wroteAt_d]; exact hr.defers.le k2), ⟨k3, k2⟩, k4, k5⟩
          rw [wroteAt_t] at hx
          obtain ⟨u, hu, hR⟩ := hr.tmps i x hx
          exact ⟨u, hu, hR.le k2⟩
        split at h
        · rename_i v ch new hc
          cases h
          refine upon_of_does (glue hc hfree) (fun u w' ⟨E', k1, k2, k3, k4⟩ => hK (by intros; simp) E' _ w' (rel_put k1 k4 _) k2.1 k3 (by show Le w E s.get w' E' ((s.wroteAt ch base new).put o.dst v).get; rw [put_get]; exact k2.2)) (fun c w' ⟨E', k1, k2, k3, k4⟩ => k4.elim) (fun w' ⟨E', k1, k2, k3, k4⟩ => k4.elim)
        · rename_i x ch new hc
          cases h
          refine upon_of_does (glue hc hfree) (fun u w' ⟨E', k1, k2, k3, k4⟩ => k4.elim) (fun c w' ⟨E', k1, k2, k3, k4⟩ => ?_) (fun w' ⟨E', k1, k2, k3, k4⟩ => k4.elim)
          obtain ⟨u, rfl, k5⟩ := k4
          exact hQ x ch new rfl E' w' u k1 k2.1 k3 k2.2 k5
        · cases h
      · rename_i x he
        cases h
        rw [hP] at he
        obtain ⟨u, hrun, hv⟩ := (eff_sound hti hr he)
        rw [hrun]
        refine hQ x [] [] rfl E w u ?_ (Fr.refl w) (Sn.refl E) (by show Le w E s.get w E (s.wroteAt [] base []).get; rw [wroteAt_nil]; exact Le.refl _ _ _) ?_
        · show Rel N outs E (s.wroteAt [] base []) a w
          rw [wroteAt_nil]; exact hr
        · show R1 w E (s.wroteAt [] base []).get (.c x) u
          rw [wroteAt_nil]
          exact R1.of_c hv
      · cases h
  · cases h
end
end Go.Vx
namespace Go.Vx
open Go Go.RowKit
section
variable {P : Program} {ti : TI} {N N' : Nat} {outs outs' : Nat → Prop} {E E' : Env} {s : S} {a : Act} {w w' : World} {ob ob' : Ref → Option Ob} {ρ : Ref → Option Ref} {orc : Orc} {cf : Cfg} {ops : Array Oper}

/-- The world goes on, as to what was handed in. -/
def LeO (w : World) (E : Env) (o : List Ob) (w' : World) (E' : Env) (o' : List Ob) : Prop := Le w E (obOf o) w' E' (obOf o')
theorem Le.toO {s s' : S} (h : Le w E s.get w' E' s'.get) : LeO w E s.o w' E' s'.o := by
  refine ⟨h.st, h.cell, fun r hl => ?_, fun r hl => ?_, fun r e sz n hl he => ?_⟩ <;> cases r with
  | loc i => first | (obtain ⟨o, ho, _⟩ := hl; cases ho)
  | out i => first | exact h.live (.out i) hl | exact h.b (.out i) hl | exact h.tok (.out i) e sz n hl he
/-- What is asked of the ways out. -/
def ResQ (N : Nat) (outs : Nat → Prop) (E : Env) (w : World) (o : List Ob) (Q : Exit → Act → World → Prop) : Res → Prop
  | .nx s => ∀ E' a w', Rel N outs E' s a w' → Fr N outs w w' → Sn N outs E E' → LeO w E o w' E' s.o → Q .normal a w'
  | .ex id s => ∀ E' a w', Rel N outs E' s a w' → Fr N outs w w' → Sn N outs E E' → LeO w E o w' E' s.o → Q (.exit id) a w'
  | .rt s => ∀ E' a w', Rel N outs E' s a w' → Fr N outs w w' → Sn N outs E E' → LeO w E o w' E' s.o → Q .ret a w'
  | .pn x s => ∀ E' a w' u, Rel N outs E' s a w' → Fr N outs w w' → Sn N outs E E' → LeO w E o w' E' s.o → R1 w' E' s.get (.c x) u → Q (.panic [{ v := u, recovered := false }]) a w'
theorem ResQ.go {Q : Exit → Act → World → Prop} {r : Res} {o o' : List Ob} (h : ResQ N outs E w o Q r) (hf : Fr N outs w w') (hs : Sn N outs E E') (hl : LeO w E o w' E' o') : ResQ N outs E' w' o' Q r := by
  cases r with
  | nx s => exact fun E2 a w2 k1 k2 k3 k4 => h E2 a w2 k1 (hf.trans k2) (hs.trans k3) (Le.trans hl k4)
  | ex id s => exact fun E2 a w2 k1 k2 k3 k4 => h E2 a w2 k1 (hf.trans k2) (hs.trans k3) (Le.trans hl k4)
  | rt s => exact fun E2 a w2 k1 k2 k3 k4 => h E2 a w2 k1 (hf.trans k2) (hs.trans k3) (Le.trans hl k4)
  | pn x s => exact fun E2 a w2 u k1 k2 k3 k4 k5 => h E2 a w2 u k1 (hf.trans k2) (hs.trans k3) (Le.trans hl k4) k5
theorem runL_wp (hti : TIok P cf.ti) (hP : cf.P = P) (ok : OKo P orc) {Q : Exit → Act → World → Prop} : ∀ {is : List Nat} {s : S} {r : R1s} {R : Res} {E : Env} {a : Act} {w : World}, runL cf orc ops is s = some r → Res.of (some r) = some R → Rel N outs E s a w →
    ResQ N outs E w s.o Q R → wpOps P ops Q is a w
  | [], s, r, R, E, a, w, h, hR, hr, hQ => by
    cases h
    cases hR
    exact hQ E a w hr (Fr.refl w) (Sn.refl E) (Le.refl _ _ _)
  | i :: is, s, r, R, E, a, w, h, hR, hr, hQ => by
    rw [wpOps_cons]
    simp only [runL] at h
    split at h
    · rename_i ho
      unfold wpOp
      rw [ho]
      exact runL_wp hti hP ok h hR hr hQ
    · rename_i o ho
      split at h
      · rename_i v wr new hact
        refine act_wp hti hP ok hr ho hact (Nat.le_refl _) (fun i h1 h2 => .inl (List.getElem?_eq_none h1)) (fun _ E' a' w' k1 k2 k3 k4 => ?_) (fun x wr' new' he => by cases he)
        have k1 : Rel N outs E' ((s.wrote wr new).put o.dst v) a' w' := by rw [← wroteAt_end]; exact k1
        have k4 : Le w E s.get w' E' ((s.wrote wr new).put o.dst v).get := by rw [← wroteAt_end]; exact k4
        exact runL_wp hti hP ok h hR k1 (hQ.go k2 k3 (Le.toO k4))
      · rename_i f args hact
        refine act_wp hti hP ok hr ho hact (Nat.le_refl _) (fun i h1 h2 => .inl (List.getElem?_eq_none h1)) (fun _ E' a' w' k1 k2 k3 k4 => ?_) (fun x wr' new' he => by cases he)
        exact runL_wp hti hP ok h hR k1 (hQ.go k2 k3 (Le.toO k4))
      · rename_i x wr new hact
        cases h
        cases hR
        refine act_wp hti hP ok hr ho hact (Nat.le_refl _) (fun i h1 h2 => .inl (List.getElem?_eq_none h1)) (fun hne => absurd rfl (hne x wr new)) (fun x' wr' new' he E' w' u k1 k2 k3 k4 k5 => ?_)
        cases he
        simp only [Act1.next, wroteAt_end] at k1 k4 k5
        exact hQ E' a w' u k1 k2 k3 (Le.toO k4) k5
      · cases h
end
end Go.Vx
namespace Go.Vx
open Go Go.RowKit
section
variable {P : Program} {ti : TI} {N N' : Nat} {outs outs' : Nat → Prop} {E E' : Env} {s : S} {a : Act} {w w' : World} {ob ob' : Ref → Option Ob} {ρ : Ref → Option Ref} {orc : Orc} {cf : Cfg} {ops : Array Oper}

theorem addR_all {p : Ref → Bool} : ∀ {l acc : List Ref}, (∀ r ∈ acc, p r = true) → (∀ r ∈ l, p r = true) → ∀ r ∈ addR acc l, p r = true
  | [], acc, h, _, r, hr => h r hr
  | q :: l, acc, h, k, r, hr => by
    simp only [addR] at hr
    split at hr
    · exact addR_all h (fun x hx => k x (.tail _ hx)) r hr
    · refine addR_all (fun x hx => ?_) (fun x hx => k x (.tail _ hx)) r hr
      rcases List.mem_append.1 hx with hx | hx
      · exact h x hx
      · simp at hx; subst hx; exact k _ (.head _)
theorem reach_all {get : Ref → Option Ob} {keep : Ref → Bool} : ∀ {n i : Nat} {acc : List Ref}, (∀ r ∈ acc, keep r = true) → ∀ r ∈ reach get keep n i acc, keep r = true
  | 0, i, acc, h, r, hr => h r hr
  | n + 1, i, acc, h, r, hr => by
    simp only [reach] at hr
    split at hr
    · exact h r hr
    · split at hr
      · exact reach_all (addR_all h (fun x hx => (List.mem_filter.1 hx).2)) r hr
      · exact reach_all h r hr
theorem scrub_get : ∀ {t0 t : List V}, (scrub t0 t).length = t.length ∧ ∀ (i : Nat) (v : V), (scrub t0 t)[i]? = some v → v = .c .dead ∧ i < t.length ∨ t[i]? = some v
  | [], t => by
    have : scrub [] t = t := by cases t <;> rfl
    rw [this]
    exact ⟨rfl, fun i v h => .inr h⟩
  | x :: t0, [] => by
    have : scrub (x :: t0) [] = [] := by cases x with | c y => cases y <;> rfl | _ => rfl
    rw [this]
    exact ⟨rfl, fun i v h => .inr h⟩
  | x :: t0, y :: t => by
    obtain ⟨h1, h2⟩ := scrub_get (t0 := t0) (t := t)
    have key : ∀ z, (z = .c .dead ∨ z = y) → (z :: scrub t0 t).length = (y :: t).length ∧ ∀ (i : Nat) (v : V), (z :: scrub t0 t)[i]? = some v → v = .c .dead ∧ i < (y :: t).length ∨ (y :: t)[i]? = some v := by
      intro z hz
      refine ⟨by simp [h1], fun i v hv => ?_⟩
      cases i with
      | zero =>
        cases hv
        rcases hz with rfl | rfl
        · exact .inl ⟨rfl, by simp⟩
        · exact .inr rfl
      | succ i =>
        rcases h2 i v hv with ⟨rfl, h⟩ | h
        · exact .inl ⟨rfl, by simp; omega⟩
        · exact .inr h
    cases x with
    | c c => cases c <;> first | exact key _ (.inr rfl) | exact key _ (.inl rfl)
    | agg cs => exact key _ (.inr rfl)
    | tup vs => exact key _ (.inl rfl)
theorem rel_scrub (hr : Rel N outs E s a w) (t0 : List V) : Rel N outs E { s with t := scrub t0 s.t } a w := by
  obtain ⟨h1, h2⟩ := scrub_get (t0 := t0) (t := s.t)
  refine Rel.of hr.o (fun i v hv => ?_) (by rw [← hr.size]; exact h1) hr.defers
  rcases h2 i v hv with ⟨rfl, hi⟩ | h
  · have : i < a.tmps.size := by rw [← hr.size]; exact hi
    exact ⟨_, Array.getElem?_eq_getElem this, trivial, fun h => absurd rfl h⟩
  · exact hr.tmps i v h
theorem trim_sound (hr : Rel N outs E s a w) {t0 : List V} {n0 : Nat} {s' : S} (h : trim t0 n0 s = some s') : ∃ E', Rel N outs E' s' a w ∧ E'.st = E.st ∧ LeO w E s.o w E' s'.o := by
  have hr1 := rel_scrub hr t0
  unfold trim at h
  cases hb : Nat.beq s.l.length n0 with
  | true =>
    rw [hb] at h
    cases h
    exact ⟨E, hr1, rfl, Le.refl _ _ _⟩
  | false =>
    rw [hb] at h
    simp only [cond_false] at h
    have hn0 : n0 ≤ s.l.length := by
      rcases Nat.lt_or_ge s.l.length n0 with hl | hl
      · rw [Nat.ble_eq_true_of_le (Nat.le_of_lt hl)] at h; cases h
      · exact hl
    cases hb2 : Nat.ble s.l.length n0 with
    | true => rw [hb2] at h; cases h
    | false =>
    rw [hb2] at h
    simp only [cond_false] at h
    obtain ⟨t, ht⟩ : ∃ t, t = scrub t0 s.t := ⟨_, rfl⟩
    obtain ⟨m, hm⟩ : ∃ m, m = reach s.get (inLoc n0) 64 0 (addR [] ((t.flatMap refsV ++ (s.l.take n0).flatMap refsOb ++ s.o.flatMap refsOb).filter (inLoc n0))) := ⟨_, rfl⟩
    rw [← ht] at h hr1
    rw [← hm] at h
    split at h
    case h_2 => cases h
    rename_i t' l' ml' o' d' q1 q2 q3 q4 q5
    cases h
    have hmn : m.Nodup := by rw [hm]; exact reach_nodup0
    have hmi : ∀ r ∈ m, inLoc n0 r = true := by
      rw [hm]
      exact reach_all (addR_all (by simp) (fun x hx => (List.mem_filter.1 hx).2))
    obtain ⟨a1, a2⟩ := mapO_get q2
    obtain ⟨b1, b2⟩ := mapO_get q3
    obtain ⟨c1, c2⟩ := mapO_get q4
    have hl'n : l'.length = n0 := by rw [a1, List.length_take]; omega
    let σ : Ref → Ref := fun r => match r with | .out i => .out i | .loc i => if i < n0 then .loc i else (m[i - n0]?).getD (.out 0)
    let E2 : Env := ⟨fun r => E.b (σ r), fun r => E.v (σ r), E.st⟩
    -- what lies under a name
    have hg : ∀ r' o, (S.mk t' (l' ++ ml') o' d').get r' = some o → ∃ o0, s.get (σ r') = some o0 ∧ renOb (keepOld n0 m) o0 = some o := by
      intro r' o ho
      cases r' with
      | out i =>
        obtain ⟨x, hx, hx'⟩ := c2 i o ho
        exact ⟨x, hx, hx'⟩
      | loc i =>
        have ho : (l' ++ ml')[i]? = some o := ho
        rcases Nat.lt_or_ge i n0 with hi | hi
        · rw [List.getElem?_append_left (by omega)] at ho
          obtain ⟨x, hx, hx'⟩ := a2 i o ho
          rw [List.getElem?_take, if_pos hi] at hx
          refine ⟨x, ?_, hx'⟩
          simp only [σ, if_pos hi]
          exact hx
        · rw [List.getElem?_append_right (by omega), hl'n] at ho
          obtain ⟨x, hx, hx'⟩ := b2 (i - n0) o ho
          obtain ⟨o0, h1, h2⟩ := Option.bind_eq_some_iff.1 hx'
          refine ⟨o0, ?_, h2⟩
          simp only [σ, if_neg (show ¬ i < n0 by omega), hx, Option.getD_some]
          exact h1
    have hσ : ∀ r r', keepOld n0 m r = some r' → σ r' = r ∧ (live s.get r → live (S.mk t' (l' ++ ml') o' d').get r') := by
      intro r r' h
      cases r with
      | out i =>
        cases h
        refine ⟨rfl, fun ⟨o, ho, hne⟩ => ?_⟩
        obtain ⟨o2, h1, h2⟩ := mapO_get' q4 i o ho
        exact ⟨o2, h1, (renOb_live h2).2⟩
      | loc i =>
        simp only [keepOld] at h
        cases hi : Nat.ble n0 i with
        | false =>
          rw [hi] at h
          cases h
          have hi : i < n0 := by
            rcases Nat.lt_or_ge i n0 with h | h
            · exact h
            · rw [Nat.ble_eq_true_of_le h] at hi; cases hi
          refine ⟨by simp only [σ, if_pos hi], fun ⟨o, ho, hne⟩ => ?_⟩
          obtain ⟨o2, h1, h2⟩ := mapO_get' q2 i o (by rw [List.getElem?_take, if_pos hi]; exact ho)
          exact ⟨o2, by show (l' ++ ml')[i]? = _; rw [List.getElem?_append_left (by omega)]; exact h1, (renOb_live h2).2⟩
        | true =>
          rw [hi] at h
          obtain ⟨k, hk, rfl⟩ := Option.map_eq_some_iff.1 h
          have hmk := posR_some hk
          refine ⟨by simp only [σ, if_neg (show ¬ n0 + k < n0 by omega), Nat.add_sub_cancel_left, hmk, Option.getD_some], fun ⟨o, ho, hne⟩ => ?_⟩
          obtain ⟨o2, h1, h2⟩ := mapO_get' q3 k _ hmk
          obtain ⟨o0, h3, h4⟩ := Option.bind_eq_some_iff.1 h2
          exact ⟨o2, by show (l' ++ ml')[n0 + k]? = _; rw [List.getElem?_append_right (by omega), hl'n, Nat.add_sub_cancel_left]; exact h1, (renOb_live h4).2⟩
    have hrn : Rn (keepOld n0 m) E s.get E2 (S.mk t' (l' ++ ml') o' d').get := by
      refine ⟨fun r r' h hl => ?_, rfl⟩
      obtain ⟨h1, h2⟩ := hσ r r' h
      refine ⟨h2 hl, by simp only [E2, h1], by simp only [E2, h1], fun e sz n he => ?_⟩
      obtain ⟨o0, k1, k2⟩ := hg r' _ he
      rw [h1] at k1
      rw [k1, renOb_tok k2]
    have hinj : ∀ r1 r2 o1 o2, (S.mk t' (l' ++ ml') o' d').get r1 = some o1 → (S.mk t' (l' ++ ml') o' d').get r2 = some o2 → σ r1 = σ r2 → r1 = r2 := by
      have hbig : ∀ i o, (l' ++ ml')[i]? = some o → ¬ i < n0 → ∃ r, m[i - n0]? = some r ∧ inLoc n0 r = true := by
        intro i o ho hi
        rw [List.getElem?_append_right (by omega), hl'n] at ho
        obtain ⟨x, hx, _⟩ := b2 _ o ho
        exact ⟨x, hx, hmi x (List.mem_of_getElem? hx)⟩
      intro r1 r2 o1 o2 h1 h2 he
      cases r1 with
      | out i =>
        cases r2 with
        | out j => exact he
        | loc j =>
          simp only [σ] at he
          split at he
          · cases he
          · rename_i hj
            obtain ⟨x, hx, hin⟩ := hbig j o2 h2 hj
            rw [hx] at he
            simp only [Option.getD_some] at he
            subst he
            cases hin
      | loc i =>
        cases r2 with
        | out j =>
          simp only [σ] at he
          split at he
          · cases he
          · rename_i hi
            obtain ⟨x, hx, hin⟩ := hbig i o1 h1 hi
            rw [hx] at he
            simp only [Option.getD_some] at he
            subst he
            cases hin
        | loc j =>
          simp only [σ] at he
          split at he
          · rename_i hi
            split at he
            · exact he
            · rename_i hj
              obtain ⟨x, hx, hin⟩ := hbig j o2 h2 hj
              rw [hx] at he
              simp only [Option.getD_some] at he
              subst he
              have := Nat.le_of_ble_eq_true hin
              omega
          · rename_i hi
            obtain ⟨x, hx, hin⟩ := hbig i o1 h1 hi
            rw [hx] at he
            simp only [Option.getD_some] at he
            split at he
            · rename_i hj
              subst he
              have := Nat.le_of_ble_eq_true hin
              omega
            · rename_i hj
              obtain ⟨y, hy, _⟩ := hbig j o2 h2 hj
              rw [hy] at he
              simp only [Option.getD_some] at he
              subst he
              have := (posR_of hmn hx).symm.trans (posR_of hmn hy)
              simp at this
              congr 1
              omega
    obtain ⟨d1, d2⟩ := mapO_get q1
    obtain ⟨e1, e2⟩ := mapO_get q5
    refine ⟨E2, Rel.of (hr.o.ren hrn σ (fun r' o' ho => ?_) hinj hr.low (fun r' o' k ho hk => ?_)) (fun i v hv => ?_) (by rw [← hr1.size, d1]) ⟨by rw [hr.defers.1]; exact e1.symm, fun j p hp => ?_⟩, rfl, ⟨fun _ _ h => h, fun _ _ _ => rfl, fun r hl => ?_, fun r hl => ?_, fun r e sz n hl he => ?_⟩⟩
    · obtain ⟨o0, h1, h2⟩ := hg r' o' ho
      exact ⟨o0, h1, h2, rfl, rfl⟩
    · obtain ⟨o0, h1, h2⟩ := hg r' o' ho
      rw [blk_ren (ρ := keepOld n0 m) (E := E) (E' := E2) (r := σ r') (r' := r') rfl rfl h2] at hk
      exact hr.mine _ o0 k h1 hk
    · obtain ⟨v0, hv0, hv1⟩ := d2 i v hv
      obtain ⟨u, hu, hR⟩ := hr1.tmps i v0 hv0
      exact ⟨u, hu, Rv.ren hrn hv1 hR⟩
    · obtain ⟨p0, hp0, hp1⟩ := e2 j p hp
      obtain ⟨vs, hvs, rfl⟩ := Option.map_eq_some_iff.1 hp1
      obtain ⟨us, hus, hpv⟩ := hr.defers.2 j p0 hp0
      exact ⟨us, hus, Pv.ren hrn hvs hpv⟩
    · cases r with
      | loc i => obtain ⟨o, ho, _⟩ := hl; cases ho
      | out i =>
        obtain ⟨o, ho, hne⟩ := hl
        obtain ⟨o2, h1, h2⟩ := mapO_get' q4 i o ho
        exact ⟨o2, h1, (renOb_live h2).2⟩
    · cases r with
      | loc i => obtain ⟨o, ho, _⟩ := hl; cases ho
      | out i => rfl
    · cases r with
      | loc i => obtain ⟨o, ho, _⟩ := hl; cases ho
      | out i =>
        obtain ⟨x, hx, hx'⟩ := c2 i _ he
        exact ⟨n, by show s.o[i]? = _; rw [hx, renOb_tok hx'], Nat.le_refl _, fun _ => rfl⟩
end
end Go.Vx
namespace Go.Vx
open Go Go.RowKit
section
variable {P : Program} {ti : TI} {N N' : Nat} {outs outs' : Nat → Prop} {E E' : Env} {s : S} {a : Act} {w w' : World} {ob ob' : Ref → Option Ob} {ρ : Ref → Option Ref} {orc : Orc} {cf : Cfg} {ops : Array Oper}

/-- What runD tells of a region whose order is open is so. -/
def DrawnOk (P : Program) (cf : Cfg) (orc : Orc) : Prop := ∀ (N : Nat) (outs : Nat → Prop) (id : Nat) (ops : Array Oper) (s : S) (R : Res) (E : Env) (a : Act) (w : World) (Q : Exit → Act → World → Prop) (fuel : Nat),
  apartAll ops = true → backs ops = true → exec cf orc fuel (.region id ops true) s = some R → Rel N outs E s a w → ResQ N outs E w s.o Q R → (Code.region id ops true).wp P Q a w
theorem ev_bool (hr : Rel N outs E s a w) {c : Operand} {b : Bool} (h : s.ev c = some (.b b)) : a.eval c = .bool b := (ev_m hr h).1
theorem least {p : Nat → Prop} (h : ∃ n, p n) : ∃ n, p n ∧ ∀ m, p m → n ≤ m := by
  obtain ⟨n, hn⟩ := h
  induction n using Nat.strongRecOn with
  | _ n ih =>
    by_cases hh : ∃ m, m < n ∧ p m
    · obtain ⟨m, hm, hp⟩ := hh
      exact ih m hm hp
    · exact ⟨n, hn, fun m hm => by
        rcases Nat.lt_or_ge m n with h | h
        · exact absurd ⟨m, h, hm⟩ hh
        · exact h⟩
noncomputable def lst {p : Nat → Prop} (h : ∃ n, p n) : Nat := Classical.choose (least h)
theorem lst_spec {p : Nat → Prop} (h : ∃ n, p n) : p (lst h) := (Classical.choose_spec (least h)).1
theorem lst_le {p : Nat → Prop} (h : ∃ n, p n) {m : Nat} (hm : p m) : lst h ≤ m := (Classical.choose_spec (least h)).2 m hm
open Classical in
theorem exec_wp (hti : TIok P cf.ti) (hP : cf.P = P) (ok : OKo P orc) (hd : DrawnOk P cf orc) (fuel : Nat) : ∀ {c : Code} {s : S} {R : Res} {E : Env} {a : Act} {w : World} {Q : Exit → Act → World → Prop}, codeOk c = true → exec cf orc fuel c s = some R → Rel N outs E s a w →
    ResQ N outs E w s.o Q R → c.wp P Q a w := by
  intro c
  induction c with
  | skip =>
    intro s R E a w Q hc h hr hQ
    simp only [exec] at h
    cases h
    exact wp_skip (hQ E a w hr (Fr.refl w) (Sn.refl E) (Le.refl _ _ _))
  | label l =>
    intro s R E a w Q hc h hr hQ
    simp only [exec] at h
    cases h
    exact wp_label (hQ E a w hr (Fr.refl w) (Sn.refl E) (Le.refl _ _ _))
  | region id ops draw =>
    intro s R E a w Q hc h hr hQ
    cases draw with
    | true =>
      simp only [codeOk, Bool.and_eq_true] at hc
      exact hd N outs id ops s R E a w Q fuel hc.1 hc.2 h hr hQ
    | false =>
      simp only [exec] at h
      cases hL : runL cf orc ops (List.range ops.size) s with
      | none => rw [hL] at h; cases h
      | some r =>
        rw [hL] at h
        exact wp_region (runL_wp hti hP ok hL h hr hQ)
  | seq x y ihx ihy =>
    intro s R E a w Q hc h hr hQ
    simp only [exec] at h
    simp only [codeOk, Bool.and_eq_true] at hc
    refine wp_seq ?_
    split at h
    · rename_i s' hx
      exact ihx hc.1 hx hr (fun E' a' w' k1 k2 k3 k4 => ihy hc.2 h k1 (hQ.go k2 k3 k4))
    · rename_i hne
      refine ihx hc.1 h hr ?_
      cases R with
      | nx s' => exact absurd h (hne s')
      | ex id s' => exact hQ
      | rt s' => exact hQ
      | pn x s' => exact hQ
  | cond c x y ihx ihy =>
    intro s R E a w Q hc h hr hQ
    simp only [exec] at h
    split at h
    case h_2 => cases h
    rename_i b hb
    refine wp_cond (t := b) (ev_bool hr hb) ?_
    cases b with
    | true => simp only [codeOk, Bool.and_eq_true] at hc; exact ihx hc.1 h hr hQ
    | false => simp only [codeOk, Bool.and_eq_true] at hc; exact ihy hc.2 h hr hQ
  | block id c ih =>
    intro s R E a w Q hc h hr hQ
    simp only [exec] at h
    refine wp_block ?_
    split at h
    · rename_i i s' hx
      refine ih hc hx hr ?_
      cases hb : Nat.beq i id with
      | true =>
        rw [hb] at h
        cases h
        have : i = id := Nat.eq_of_beq_eq_true hb
        intro E' a' w' k1 k2 k3 k4
        show (if i = id then _ else _)
        rw [if_pos this]
        exact hQ E' a' w' k1 k2 k3 k4
      | false =>
        rw [hb] at h
        cases h
        intro E' a' w' k1 k2 k3 k4
        show (if i = id then _ else _)
        rw [if_neg (fun e => by rw [e, Nat.beq_refl] at hb; cases hb)]
        exact hQ E' a' w' k1 k2 k3 k4
    · rename_i hne
      refine ih hc h hr ?_
      cases R with
      | nx s' => exact hQ
      | ex i s' => exact absurd h (hne i s')
      | rt s' => exact hQ
      | pn x s' => exact hQ
  | loop c ih =>
    intro s R E a w Q hc h hr hQ
    simp only [exec] at h
    split at h
    case h_2 => cases h
    rename_i s1 htr
    obtain ⟨tr, htr'⟩ : ∃ tr, tr = trim s.t s.l.length := ⟨_, rfl⟩
    have hts : ∀ {s s' : S} {E : Env} {a : Act} {w : World}, tr s = some s' → Rel N outs E s a w → ∃ E', Rel N outs E' s' a w ∧ E'.st = E.st ∧ LeO w E s.o w E' s'.o := fun {s s' E a w} h1 h2 => by rw [htr'] at h1; exact trim_sound h2 h1
    rw [← htr'] at h htr
    let J : Nat → Act → World → Prop := fun n a' w' => ∃ s' E', Rel N outs E' s' a' w' ∧ iter (exec cf orc fuel c) tr n s' = some R ∧ ResQ N outs E' w' s'.o Q R
    have hJ0 : J fuel a w := by
      obtain ⟨E1, h1, h2, h3⟩ := hts htr hr
      exact ⟨s1, E1, h1, h, hQ.go (Fr.refl w) (fun b x hx => .inl (by rw [← h2]; exact hx)) h3⟩
    refine wp_loop (fun a' w' => ∃ n, J n a' w') (fun a' w' => if hh : ∃ n, J n a' w' then lst hh else 0) ⟨fuel, hJ0⟩ ?_
    intro a1 w1 hI
    have hmin := lst_spec hI
    obtain ⟨n, hn⟩ : ∃ n, n = lst hI := ⟨_, rfl⟩
    rw [← hn] at hmin
    obtain ⟨s2, E2, k1, k2, k3⟩ := hmin
    cases n with
    | zero => cases k2
    | succ n =>
      simp only [iter] at k2
      split at k2
      · rename_i s3 hx
        split at k2
        case h_2 => cases k2
        rename_i s4 ht4
        refine ih hc hx k1 (fun E5 a5 w5 j1 j2 j3 j4 => ?_)
        obtain ⟨E6, h6, h7, h8⟩ := hts ht4 j1
        have hJ : J n a5 w5 := ⟨s4, E6, h6, k2, (k3.go j2 j3 j4).go (Fr.refl w5) (fun b x hx => .inl (by rw [← h7]; exact hx)) h8⟩
        refine ⟨⟨n, hJ⟩, ?_⟩
        have hex : ∃ n, J n a5 w5 := ⟨n, hJ⟩
        rw [dif_pos hex, dif_pos hI]
        have := lst_le hex hJ
        omega
      · rename_i hne
        refine ih hc k2 k1 ?_
        cases R with
        | nx s' => exact absurd k2 (hne s')
        | ex i s' => exact k3
        | rt s' => exact k3
        | pn x s' => exact k3
  | exit id =>
    intro s R E a w Q hc h hr hQ
    simp only [exec] at h
    cases h
    exact wp_exit (hQ E a w hr (Fr.refl w) (Sn.refl E) (Le.refl _ _ _))
  | ret =>
    intro s R E a w Q hc h hr hQ
    simp only [exec] at h
    cases h
    exact wp_ret (hQ E a w hr (Fr.refl w) (Sn.refl E) (Le.refl _ _ _))
  | scope c ih =>
    intro s R E a w Q hc h hr hQ
    simp only [exec] at h
    refine wp_scope_straight (ih hc h hr ?_)
    cases R with
    | nx s' => exact hQ
    | ex i s' => exact hQ
    | rt s' => exact hQ
    | pn x s' => exact hQ
  | _ =>
    intro s R E a w Q hc h hr hQ
    simp only [exec] at h
    cases h
end
end Go.Vx
namespace Go.Vx
open Go Go.RowKit
section
variable {P : Program} {ti : TI} {orc : Orc} {cf : Cfg} {ops : Array Oper} {ev ev2 : Operand → Option V} {get get2 : Ref → Option Ob} {s s2 : S}

theorem mapO_congr {α β : Type} {f g : α → Option β} : ∀ {l : List α}, (∀ x ∈ l, f x = g x) → mapO f l = mapO g l
  | [], _ => rfl
  | x :: l, h => by
    simp only [mapO]
    rw [h x (.head _), mapO_congr fun y hy => h y (.tail _ hy)]
theorem addR_sub : ∀ {l acc : List Ref} (r : Ref), r ∈ acc → r ∈ addR acc l
  | [], acc, r, h => h
  | q :: l, acc, r, h => by
    simp only [addR]
    split
    · exact addR_sub r h
    · exact addR_sub r (List.mem_append_left _ h)
theorem reach_sub {keep : Ref → Bool} : ∀ {n i : Nat} {acc : List Ref} (r : Ref), r ∈ acc → r ∈ reach get keep n i acc
  | 0, i, acc, r, h => h
  | n + 1, i, acc, r, h => by
    simp only [reach]
    split
    · exact h
    · split
      · exact reach_sub r (addR_sub r h)
      · exact reach_sub r h
theorem reach_congr {keep : Ref → Bool} : ∀ {n i : Nat} {acc : List Ref}, (∀ r ∈ reach get keep n i acc, get r = get2 r) → reach get2 keep n i acc = reach get keep n i acc
  | 0, i, acc, h => rfl
  | n + 1, i, acc, h => by
    simp only [reach] at h ⊢
    cases hi : acc[i]? with
    | none => rfl
    | some r =>
      have hr := List.mem_of_getElem? hi
      rw [hi] at h
      simp only [] at h ⊢
      cases hg : get r with
      | none =>
        rw [hg] at h
        simp only [] at h
        have := h r (reach_sub r hr)
        rw [hg] at this
        rw [← this]
        exact reach_congr h
      | some o =>
        rw [hg] at h
        simp only [] at h
        have := h r (reach_sub r (addR_sub r hr))
        rw [hg] at this
        rw [← this]
        exact reach_congr h
theorem evList_congr : ∀ {l : List Operand}, (∀ x ∈ l, ev x = ev2 x) → evList ev l = evList ev2 l
  | [], _ => rfl
  | x :: l, h => by
    simp only [evList]
    rw [h x (.head _), evList_congr fun y hy => h y (.tail _ hy)]
theorem evParts_congr : ∀ {l : List (Nat × Operand)}, (∀ x ∈ l.map (·.2), ev x = ev2 x) → evParts ev l = evParts ev2 l
  | [], _ => rfl
  | (i, x) :: l, h => by
    simp only [evParts]
    rw [h x (by simp), evParts_congr fun y hy => h y (by simp at hy ⊢; exact .inr hy)]
theorem evList_get : ∀ {l : List Operand} {vs : List V}, evList ev l = some vs → ∀ (j : Nat) (v : V), vs[j]? = some v → ∃ x ∈ l, ev x = some v
  | [], vs, h, j, v, hv => by cases h; simp at hv
  | x :: l, vs, h, j, v, hv => by
    simp only [evList] at h
    split at h
    case h_2 => cases h
    rename_i v0 l0 h1 h2
    cases h
    cases j with
    | zero => cases hv; exact ⟨x, .head _, h1⟩
    | succ j =>
      obtain ⟨y, hy, he⟩ := evList_get h2 j v (by simpa using hv)
      exact ⟨y, .tail _ hy, he⟩
theorem effLen_congr {x : V} (h : ∀ r, x = .c (.mp r) → get r = get2 r) : effLen get x = effLen get2 x := by
  unfold effLen
  split <;> first | rfl | (rename_i r; rw [h r rfl])
theorem effAppend_congr {t : TypeId} {x y : V} (h : ∀ r ∈ refO (some x), get r = get2 r) : effAppend ti get t x y = effAppend ti get2 t x y := by
  unfold effAppend
  split
  · split
    · rfl
    · rename_i q sz rs z _
      rw [h q (by simp [refO, refsC])]
    · rfl
  · rfl
theorem effAppendS_congr {t : TypeId} {x : V} {b : ByteArray} (h : ∀ r ∈ refO (some x), get r = get2 r) : effAppendS ti get t x b = effAppendS ti get2 t x b := by
  unfold effAppendS
  split
  · split
    · split
      · split
        · rfl
        · split
          · rfl
          · rename_i q sz rs
            rw [h q (by simp [refO, refsC])]
          · rfl
      · rfl
    · rfl
  · rfl
theorem effCall_congr {c : Call} (h : ∀ x ∈ c.operands, ev x = ev2 x) (hg : ∀ b, c.callee = .builtin b → ∀ x ∈ c.args.toList, ∀ r ∈ refO (ev x), get r = get2 r) :
    effCall P ti ev get c = effCall P ti ev2 get2 c := by
  have hargs : evList ev2 c.args.toList = evList ev c.args.toList := (evList_congr fun x hx => h x (by simp [Call.operands, Array.mem_toList_iff.1 hx])).symm
  unfold effCall
  rw [hargs]
  split
  · rename_i f hc
    rw [h f (by simp [Call.operands, hc])]
  · rename_i hc
    split
    · rename_i t x h1 h2
      obtain ⟨y, hy, he⟩ := evList_get h2 0 x rfl
      rw [effLen_congr fun r hr => hg _ hc y hy r (by rw [he, hr]; simp [refO, refsC])]
    · rfl
  · rename_i hc
    split
    · rename_i t t' x z h1 h2
      obtain ⟨y, hy, he⟩ := evList_get h2 0 x rfl
      rw [effAppend_congr fun r hr => hg _ hc y hy r (by rw [he]; exact hr)]
      have hS : ∀ b, effAppendS ti get t x b = effAppendS ti get2 t x b := fun b => effAppendS_congr fun r hr => hg _ hc y hy r (by rw [he]; exact hr)
      simp only [hS]
    · rfl
  · rfl
  · rfl
  · rfl
theorem eff_congr {o : Oper} (h : ∀ x ∈ o.op.operands, ev x = ev2 x) (hP : cf.P = P) (hg : ∀ r ∈ looks cf ev get o, get r = get2 r) :
    eff P ti ev get o.op = eff P ti ev2 get2 o.op := by
  obtain ⟨dst, op, type, pos, after, guard⟩ := o
  simp only at h ⊢
  unfold looks at hg
  simp only at hg
  cases op with
  | call c =>
    simp only [eff]
    refine effCall_congr (by simpa [Op.operands] using h) (fun b hb x hx r hr => hg r ?_)
    simp only [hb]
    exact List.mem_append_right _ (List.mem_flatMap.2 ⟨x, hx, hr⟩)
  | load t x =>
    simp only [eff]
    rw [← h x (by simp [Op.operands])]
    split
    · rename_i r off he
      rw [hg r (by simp only [he]; simp [refO, refsC])]
    · rfl
    · rfl
  | store t x y =>
    simp only [eff]
    rw [← h x (by simp [Op.operands]), ← h y (by simp [Op.operands])]
    split
    · rename_i r off v row he _ _
      rw [hg r (by simp only [he]; simp [refO, refsC])]
    · rfl
  | next x b =>
    cases b with
    | false => rfl
    | true =>
      simp only [eff]
      rw [← h x (by simp [Op.operands])]
      split
      · rename_i r he
        rw [hg r (by simp only [he]; simp [refO, refsC])]
      · rfl
  | lookup t x k ok =>
    simp only [eff]
    rw [← h x (by simp [Op.operands]), ← h k (by simp [Op.operands])]
    split
    · rename_i kt et r kv hk he hkv
      rw [hg r (by simp only [he]; simp [refO, refsC])]
    · rfl
  | mapUpdate t x k y =>
    simp only [eff]
    rw [← h x (by simp [Op.operands]), ← h k (by simp [Op.operands]), ← h y (by simp [Op.operands])]
    split
    · rename_i kt et r kv c hk he hkv hc
      rw [hg r (by simp only [he]; simp [refO, refsC])]
    · rfl
  | insert t x k y =>
    simp only [eff]
    rw [← h x (by simp [Op.operands]), ← h k (by simp [Op.operands]), ← h y (by simp [Op.operands])]
    split
    · rename_i kt et r kv c hk he hkv hc
      rw [hg r (by simp only [he]; simp [refO, refsC])]
    · rfl
  | build t ps =>
    simp only [eff]
    rw [evParts_congr fun x hx => h x (by simp only [Op.operands]; simpa using hx)]
  | buildSlice t n ps =>
    simp only [eff]
    rw [evParts_congr fun x hx => h x (by simp only [Op.operands]; simpa using hx)]
  | makeFunc f first caps =>
    cases f with
    | func f => simp only [eff]; rw [evList_congr fun x hx => h x (by simp [Op.operands, Array.mem_toList_iff.1 hx])]
    | _ => rfl
  | makeMap t r => cases r <;> rfl
  | slice t x lo hi mx =>
    cases mx with
    | some m => rfl
    | none =>
      have h1 : evOpt ev lo = evOpt ev2 lo := by cases lo with | none => rfl | some y => simp only [evOpt]; rw [h y (by simp [Op.operands])]
      have h2 : evOpt ev hi = evOpt ev2 hi := by cases hi with | none => rfl | some y => simp only [evOpt]; rw [h y (by simp [Op.operands])]
      simp only [eff]
      rw [← h x (by simp [Op.operands]), h1, h2]
  | move x => simp only [eff]; rw [h x (by simp [Op.operands])]
  | assign x => simp only [eff]; rw [h x (by simp [Op.operands])]
  | pick a b c => simp only [eff]; rw [h a (by simp [Op.operands]), h b (by simp [Op.operands]), h c (by simp [Op.operands])]
  | box t x => simp only [eff]; rw [h x (by simp [Op.operands])]
  | nilCheck x => simp only [eff]; rw [h x (by simp [Op.operands])]
  | binOp op t x y z => simp only [eff]; rw [h x (by simp [Op.operands]), h y (by simp [Op.operands])]
  | unOp op t x => simp only [eff]; rw [h x (by simp [Op.operands])]
  | convert t t' x =>
    simp only [eff]
    rw [← h x (by simp [Op.operands])]
    split
    · rfl
    · rename_i r off he
      rw [hg r (by simp only [he]; simp [refO, refsC])]
    · rfl
  | makeInterface t x => simp only [eff]; rw [h x (by simp [Op.operands])]
  | fieldAddr t x f => simp only [eff]; rw [h x (by simp [Op.operands])]
  | field t x f => simp only [eff]; rw [h x (by simp [Op.operands])]
  | indexAddr t x i => simp only [eff]; rw [h x (by simp [Op.operands]), h i (by simp [Op.operands])]
  | index t x i => simp only [eff]; rw [h x (by simp [Op.operands]), h i (by simp [Op.operands])]
  | range t x => simp only [eff]; rw [h x (by simp [Op.operands])]
  | extract x i => simp only [eff]; rw [h x (by simp [Op.operands])]
  | typeAssert x q d ok => cases ok with
    | false => rfl
    | true => simp only [eff]; rw [h x (by simp [Op.operands])]
  | panic x => simp only [eff]; rw [h x (by simp [Op.operands])]
  | _ => rfl
theorem only_congr {G : List Ref} (h : ∀ r ∈ G, get r = get2 r) : only G get2 = only G get := by
  funext r
  unfold only
  split
  · rename_i i hi
    exact (h r (List.mem_of_getElem? (posR_some hi))).symm
  · rfl
theorem withoutL_congr {G : List Ref} {r : Ref} (h : get r = get2 r) : withoutL G get2 r = withoutL G get r := by
  unfold withoutL
  split
  · exact h.symm
  · unfold without
    rw [h]
theorem callEff_congr {f : FuncId} {args : List V} {base : Nat} (hg : ∀ r ∈ callLooks cf get f args, get r = get2 r) : callEff cf orc get2 base f args = callEff cf orc get base f args := by
  unfold callLooks at hg
  simp only [] at hg
  have hG : heldBy cf get2 f args = heldBy cf get f args := by
    have hg1 : ∀ r ∈ heldBy cf get f args, get r = get2 r := fun r hr => hg r (List.mem_append_left _ hr)
    unfold heldBy at hg1 ⊢
    cases hk : cf.kp f with
    | true => rfl
    | false =>
      rw [hk] at hg1
      simp only [cond_false] at hg1 ⊢
      unfold held at hg1 ⊢
      split
      · rfl
      · rename_i l hl
        simp only at hg1
        exact reach_congr hg1
  unfold callEff
  simp only [hG]
  generalize heldBy cf get f args = G at hg
  have ha : goOver cf get2 f (paramsOf cf f) G args = goOver cf get f (paramsOf cf f) G args := by
    unfold goOver
    rw [only_congr fun r hr => hg r (List.mem_append_left _ hr)]
  rw [ha]
  generalize goOver cf get f (paramsOf cf f) G args = args1 at hg
  have hm : reach (withoutL G get2) (fun _ => true) 64 0 (addR [] (args1.flatMap refsV1)) = reach (withoutL G get) (fun _ => true) 64 0 (addR [] (args1.flatMap refsV1)) :=
    reach_congr fun r hr => (withoutL_congr (hg r (List.mem_append_right _ hr))).symm
  rw [hm]
  have hmo : ∀ ρ : Ref → Option Ref, mapO (fun r => (withoutL G get2 r).bind (renOb ρ)) (reach (withoutL G get) (fun _ => true) 64 0 (addR [] (args1.flatMap refsV1))) =
      mapO (fun r => (withoutL G get r).bind (renOb ρ)) (reach (withoutL G get) (fun _ => true) 64 0 (addR [] (args1.flatMap refsV1))) := fun ρ =>
    mapO_congr fun r hr => by rw [withoutL_congr (hg r (List.mem_append_right _ hr))]
  rw [hmo]
theorem dfrO_congr {o : Op} (h : ∀ x ∈ o.operands, ev x = ev2 x) : dfrO ev o = dfrO ev2 o := by
  unfold dfrO
  split
  · rename_i c
    split
    · rename_i f hc
      rw [evList_congr fun x hx => h x (by simp [Op.operands, Call.operands, Array.mem_toList_iff.1 hx])]
    · rfl
  · rfl
theorem wantB_congr {o : Oper} {t t2 : List V} (h : ∀ d ∈ o.looksAt ops, t[d]? = t2[d]?) : wantB ops t2 o = wantB ops t o := by
  unfold wantB
  split
  · rfl
  · rename_i j want hg
    have : yieldB ops t2 j = yieldB ops t j := by
      unfold yieldB
      split
      · rfl
      · rename_i d hd
        rw [h d (by simp [Oper.looksAt, hg, hd])]
    rw [this]
theorem effSlice_call {size : Nat} {lo hi : Option V} {v : V} {f : FuncId} {args : List V} : effSlice size lo hi v ≠ some (.call f args) := by
  intro h
  unfold effSlice at h
  repeat' split at h
  all_goals cases h
theorem effIndexAddr_call {t : TypeId} {x : V} {i : Int} {f : FuncId} {args : List V} : effIndexAddr ti t x i ≠ some (.call f args) := by
  intro h
  unfold effIndexAddr at h
  repeat' split at h
  all_goals cases h
theorem eff_call {op : Op} {f : FuncId} {args : List V} (h : eff P ti ev get op = some (.call f args)) : ∃ c, op = .call c ∧ effCall P ti ev get c = some (.call f args) := by
  unfold eff at h
  split at h
  all_goals first | exact ⟨_, rfl, h⟩ | exfalso
  all_goals repeat' split at h
  all_goals first | (cases h; done) | (exact effSlice_call h) | (exact effIndexAddr_call h) | (obtain ⟨_, _, h⟩ := Option.map_eq_some_iff.1 h; cases h; done) | (obtain ⟨_, _, h⟩ := Option.bind_eq_some_iff.1 h; split at h <;> cases h; done)
theorem actO_congr (hP : cf.P = P) {o : Oper} (ht : ∀ d ∈ o.looksAt ops, s.t[d]? = s2.t[d]?) (hg : ∀ r ∈ looksW cf ops s o, s.get r = s2.get r) (base : Nat) :
    actO cf orc ops o s2.t s2.ev s2.get base = actO cf orc ops o s.t s.ev s.get base := by
  have hev : ∀ x ∈ o.op.operands, s.ev x = s2.ev x := by
    intro x hx
    cases x with
    | tmp i => exact ht i (by unfold Oper.looksAt; exact List.mem_append_left _ (List.mem_filterMap.2 ⟨.tmp i, by simpa using hx, rfl⟩))
    | _ => rfl
  unfold looksW at hg
  unfold actO
  rw [wantB_congr ht]
  cases hw : wantB ops s.t o with
  | none => rfl
  | some b =>
    cases b with
    | false => rfl
    | true =>
      rw [hw] at hg
      simp only [] at hg ⊢
      rw [← dfrO_congr hev]
      cases dfrO s.ev o.op with
      | some p => rfl
      | none =>
        simp only []
        rw [← eff_congr (P := cf.P) (ti := cf.ti) hev rfl hg]
        split
        · rfl
        · rfl
        · rfl
        · rename_i f args he
          rw [callEff_congr fun r hr => hg r ?_]
          obtain ⟨c, hop, hc⟩ := eff_call he
          unfold looks
          rw [hop]
          simp only [hc]
          exact List.mem_append_left _ hr
        · rfl
        · rfl
end
end Go.Vx
namespace Go.Vx
open Go Go.RowKit
section
variable {P : Program} {ti : TI} {N N' : Nat} {outs outs' : Nat → Prop} {E E' : Env} {s : S} {a : Act} {w w' : World} {ob ob' : Ref → Option Ob} {ρ : Ref → Option Ref} {orc : Orc} {cf : Cfg} {ops : Array Oper}

theorem freeze_upds (s : S) (G : List Ref) (q : Ref) : (s.upds (G.map (·, .gone))).get q = match s.get q with | some o => some (if q ∈ G then .gone else o) | none => none := by
  rw [upds_get, lastW_gone]
  cases s.get q with
  | none => rfl
  | some o => by_cases h : q ∈ G <;> simp [h]
/-- The results of a function. -/
theorem resV_sound (hti : TIok P cf.ti) (hr : Rel N outs E s a w) {rv : ResultVar} {v : V} (h : resV cf s rv = some v) :
    ∃ u, ((match rv with | .tmp t => pure (a.tmps.getD t undef) | .cell x t => do loadVar t (← asAddr (a.tmps.getD x undef)) : Sem Value)).run P w = .ok u w ∧ Rv w E s.get v u := by
  cases rv with
  | tmp t =>
    obtain ⟨u, hu, hR⟩ := hr.tmps t v h
    exact ⟨u, by simp [Array.getD_eq_getD_getElem?, hu], hR⟩
  | cell x t =>
    simp only [resV] at h
    split at h
    case h_2 => cases h
    rename_i v' he
    cases h
    simp only [eff] at he
    split at he
    · rename_i r off hx
      split at he
      · rename_i e cs hg
        obtain ⟨v', hv, he⟩ := Option.map_eq_some_iff.1 he
        cases he
        obtain ⟨us, hb, hl, hc, _⟩ := hr.objs r _ hg
        obtain ⟨u, hu, h1⟩ := load_of hti hv (b := E.b r) (o := off) (w := w) (E := E) (ob := s.get) (fun j y hj => by
          rw [List.getElem?_drop] at hj
          obtain ⟨z, hz, hz1, hz2⟩ := hc _ _ hj
          exact ⟨z, by simp [World.cell?, hb, hz], hz1, hz2⟩)
        have hpt : a.tmps.getD x undef = .pointer (some ⟨E.b r, off, none⟩) := (ev_ptr hr hx).2
        refine ⟨u, ?_, Rv.of1 h1⟩
        simp only [hpt, asAddr]
        rw [Sem.run_bind]
        simp [hu]
      · cases he
    · rename_i cs hx
      obtain ⟨v', hv, he⟩ := Option.map_eq_some_iff.1 he
      cases he
      obtain ⟨⟨n, b, off, hu0, hc⟩, -⟩ := ev_sound hr hx
      obtain ⟨u, hu, h1⟩ := load_of hti hv (b := b) (o := off) (w := w) (E := E) (ob := s.get) (fun j y hj => by
        rw [List.getElem?_map] at hj
        obtain ⟨x', hx', rfl⟩ := Option.map_eq_some_iff.1 hj
        obtain ⟨hs, y', hy', hp⟩ := hc j x' hx'
        exact ⟨y', hy', hp.one, n, hp⟩)
      have hpt : a.tmps.getD x undef = .pointer (some ⟨b, off, none⟩) := hu0
      refine ⟨u, ?_, Rv.of1 h1⟩
      simp only [hpt, asAddr]
      rw [Sem.run_bind]
      simp [hu]
    · cases he
/-- All of the results. -/
theorem results_sound (hti : TIok P cf.ti) (hr : Rel N outs E s a w) {fn : Func} {vs : List V} (h : mapO (resV cf s) fn.results.toList = some vs) :
    ∃ us : List Value, Pv w E s.get vs us ∧ (results fn a.tmps).run P w = .ok (match us with | [u] => u | us => .tuple us.toArray) w := by
  have key : ∀ (f : ResultVar → Sem Value), (∀ rv v, resV cf s rv = some v → ∃ u, (f rv).run P w = .ok u w ∧ Rv w E s.get v u) → ∀ (l : List ResultVar) (vs : List V), mapO (resV cf s) l = some vs → ∃ us : List Value, Pv w E s.get vs us ∧
      (l.mapM (m := Sem) f).run P w = .ok us w := by
    intro f hf l
    induction l with
    | nil => intro vs h; cases h; exact ⟨[], ⟨rfl, fun j x hx => by simp at hx⟩, by simp⟩
    | cons rv l ih =>
      intro vs h
      simp only [mapO] at h
      split at h
      case h_2 => cases h
      rename_i v r hv hr'
      cases h
      obtain ⟨u, hu, hR⟩ := hf rv v hv
      obtain ⟨us, hus, hrun⟩ := ih r hr'
      refine ⟨u :: us, ⟨by simp [hus.1], fun j x hx => ?_⟩, ?_⟩
      · cases j with
        | zero => cases hx; exact ⟨u, rfl, hR⟩
        | succ j => exact hus.2 j x (by simpa using hx)
      · rw [List.mapM_cons, Sem.run_bind, hu, Result.andThen_ok, Sem.run_bind, hrun, Result.andThen_ok, Sem.run_pure]
  have fin : ∀ (f : ResultVar → Sem Value), (∀ rv v, resV cf s rv = some v → ∃ u, (f rv).run P w = .ok u w ∧ Rv w E s.get v u) → ∃ us : List Value, Pv w E s.get vs us ∧
      (do let vs ← fn.results.mapM f; pure (if h : vs.size = 1 then vs[0] else .tuple vs) : Sem Value).run P w = .ok (match us with | [u] => u | us => .tuple us.toArray) w := by
    intro f hf
    obtain ⟨us, h1, h2⟩ := key f hf _ _ h
    refine ⟨us, h1, ?_⟩
    rw [Array.mapM_eq_mapM_toList, Sem.run_bind, Sem.run_map, h2]
    match us, h1 with
    | [], _ => rfl
    | [u], _ => rfl
    | u :: u' :: us, _ => simp [Result.andThen]
  unfold results
  refine fin _ (fun rv v hv => ?_)
  cases rv with
  | tmp t => exact resV_sound hti hr hv
  | cell x t => exact resV_sound hti hr hv
end
end Go.Vx
namespace Go.Vx
open Go Go.RowKit
section
variable {P : Program} {ti : TI} {N N' : Nat} {outs outs' : Nat → Prop} {E E' : Env} {s : S} {a : Act} {w w' : World} {ob ob' : Ref → Option Ob} {ρ : Ref → Option Ref} {orc : Orc} {cf : Cfg} {ops : Array Oper}

theorem pack_sound (hr : RelO N outs E s.get w) {o o' : Out} {objs' : List Ob} (h : pack s o = some (o', objs')) : ∃ E', RelO N outs E' (obOf objs') w ∧ E'.st = E.st ∧ LeO w E s.o w E' objs' ∧ ∀ e, OutR w E s.get o e → OutR w E' (obOf objs') o' e := by
  unfold pack at h
  obtain ⟨m, hm⟩ : ∃ m, m = reach s.get (inLoc 0) 64 0 (addR [] ((outRefs o ++ s.o.flatMap refsOb).filter (inLoc 0))) := ⟨_, rfl⟩
  have hmn : m.Nodup := by rw [hm]; exact reach_nodup0
  have hmi : ∀ r ∈ m, inLoc 0 r = true := by
    rw [hm]
    exact reach_all (addR_all (by simp) (fun x hx => (List.mem_filter.1 hx).2))
  simp only [← hm] at h
  split at h
  case h_2 => cases h
  rename_i o2 os ns q1 q2 q3
  cases h
  obtain ⟨a1, a2⟩ := mapO_get q2
  obtain ⟨b1, b2⟩ := mapO_get q3
  obtain ⟨n, hn⟩ : ∃ n, n = s.o.length := ⟨_, rfl⟩
  rw [← hn] at q1 q2 q3 a1 a2 b2
  let σ : Ref → Ref := fun r => match r with | .loc i => .loc i | .out i => if i < n then .out i else (m[i - n]?).getD (.out 0)
  let E2 : Env := ⟨fun r => E.b (σ r), fun r => E.v (σ r), E.st⟩
  have hg : ∀ r' o, obOf (os ++ ns) r' = some o → ∃ o0, s.get (σ r') = some o0 ∧ renOb (packRen n m) o0 = some o := by
    intro r' o ho
    cases r' with
    | loc i => cases ho
    | out i =>
      have ho : (os ++ ns)[i]? = some o := ho
      rcases Nat.lt_or_ge i n with hi | hi
      · rw [List.getElem?_append_left (by omega)] at ho
        obtain ⟨x, hx, hx'⟩ := a2 i o ho
        refine ⟨x, ?_, hx'⟩
        simp only [σ, if_pos hi]
        exact hx
      · rw [List.getElem?_append_right (by omega), a1] at ho
        obtain ⟨x, hx, hx'⟩ := b2 (i - n) o ho
        obtain ⟨o0, h1, h2⟩ := Option.bind_eq_some_iff.1 hx'
        refine ⟨o0, ?_, h2⟩
        simp only [σ, if_neg (show ¬ i < n by omega), hx, Option.getD_some]
        exact h1
  have hσ : ∀ r r', packRen n m r = some r' → live s.get r → σ r' = r ∧ live (obOf (os ++ ns)) r' := by
    intro r r' h hl
    obtain ⟨o, ho, hne⟩ := hl
    cases r with
    | out i =>
      cases h
      have hi : i < n := by rw [hn]; exact (List.getElem?_eq_some_iff.1 ho).1
      obtain ⟨o2, h1, h2⟩ := mapO_get' q2 i o ho
      exact ⟨by simp only [σ, if_pos hi], o2, by show (os ++ ns)[i]? = _; rw [List.getElem?_append_left (by omega)]; exact h1, (renOb_live h2).2⟩
    | loc i =>
      obtain ⟨k, hk, rfl⟩ := Option.map_eq_some_iff.1 h
      have hmk := posR_some hk
      obtain ⟨o2, h1, h2⟩ := mapO_get' q3 k _ hmk
      obtain ⟨o0, h3, h4⟩ := Option.bind_eq_some_iff.1 h2
      exact ⟨by simp only [σ, if_neg (show ¬ n + k < n by omega), Nat.add_sub_cancel_left, hmk, Option.getD_some], o2, by show (os ++ ns)[n + k]? = _; rw [List.getElem?_append_right (by omega), a1, Nat.add_sub_cancel_left]; exact h1, (renOb_live h4).2⟩
  have hrn : Rn (packRen n m) E s.get E2 (obOf (os ++ ns)) := by
    refine ⟨fun r r' h hl => ?_, rfl⟩
    obtain ⟨h1, h2⟩ := hσ r r' h hl
    refine ⟨h2, by simp only [E2, h1], by simp only [E2, h1], fun e sz n he => ?_⟩
    obtain ⟨o0, k1, k2⟩ := hg r' _ he
    rw [h1] at k1
    rw [k1, renOb_tok k2]
  have hbig : ∀ i o, obOf (os ++ ns) (.out i) = some o → ¬ i < n → ∃ r, m[i - n]? = some r ∧ inLoc 0 r = true := by
    intro i o ho hi
    have ho : (os ++ ns)[i]? = some o := ho
    rw [List.getElem?_append_right (by omega), a1] at ho
    obtain ⟨x, hx, _⟩ := b2 _ o ho
    exact ⟨x, hx, hmi x (List.mem_of_getElem? hx)⟩
  have hinj : ∀ r1 r2 o1 o2, obOf (os ++ ns) r1 = some o1 → obOf (os ++ ns) r2 = some o2 → σ r1 = σ r2 → r1 = r2 := by
    intro r1 r2 o1 o2 h1 h2 he
    cases r1 with
    | loc i => cases h1
    | out i =>
      cases r2 with
      | loc j => cases h2
      | out j =>
        simp only [σ] at he
        by_cases hi : i < n <;> by_cases hj : j < n
        · rw [if_pos hi, if_pos hj] at he; exact he
        · rw [if_pos hi, if_neg hj] at he
          obtain ⟨x, hx, hin⟩ := hbig j o2 h2 hj
          rw [hx] at he; simp only [Option.getD_some] at he; subst he; cases hin
        · rw [if_neg hi, if_pos hj] at he
          obtain ⟨x, hx, hin⟩ := hbig i o1 h1 hi
          rw [hx] at he; simp only [Option.getD_some] at he; subst he; cases hin
        · rw [if_neg hi, if_neg hj] at he
          obtain ⟨x, hx, _⟩ := hbig i o1 h1 hi
          obtain ⟨y, hy, _⟩ := hbig j o2 h2 hj
          rw [hx, hy] at he; simp only [Option.getD_some] at he; subst he
          have := (posR_of hmn hx).symm.trans (posR_of hmn hy)
          simp at this
          congr 1
          omega
  refine ⟨E2, hr.ren hrn σ (fun r' o' ho => ?_) hinj hr.low (fun r' o' k ho hk => ?_), rfl, ⟨fun _ _ h => h, fun _ _ _ => rfl, fun r hl => ?_, fun r hl => ?_, fun r e sz n' hl he => ?_⟩, fun e he => ?_⟩
  · obtain ⟨o0, h1, h2⟩ := hg r' o' ho
    exact ⟨o0, h1, h2, rfl, rfl⟩
  · obtain ⟨o0, h1, h2⟩ := hg r' o' ho
    rw [blk_ren (ρ := packRen n m) (E := E) (E' := E2) (r := σ r') (r' := r') rfl rfl h2] at hk
    exact hr.mine _ o0 k h1 hk
  · cases r with
    | loc i => obtain ⟨o, ho, _⟩ := hl; cases ho
    | out i => exact (hσ (.out i) (.out i) rfl hl).2
  · cases r with
    | loc i => obtain ⟨o, ho, _⟩ := hl; cases ho
    | out i => show E.b (σ (.out i)) = _; rw [(hσ (.out i) (.out i) rfl hl).1]
  · cases r with
    | loc i => obtain ⟨o, ho, _⟩ := hl; cases ho
    | out i =>
      have h1 := (hσ (.out i) (.out i) rfl hl).1
      obtain ⟨o0, k1, k2⟩ := hg (.out i) _ he
      rw [h1] at k1
      exact ⟨n', by show s.o[i]? = _; rw [show s.o[i]? = some o0 from k1, renOb_tok k2], Nat.le_refl _, fun _ => by show E.v (σ (.out i)) = _; rw [h1]⟩
  · cases o with
    | ret v =>
      obtain ⟨v', hv', rfl⟩ := Option.map_eq_some_iff.1 q1
      cases e with
      | returned u => exact Rv.ren hrn hv' he
      | _ => exact he.elim
    | pan x =>
      obtain ⟨x', hx', rfl⟩ := Option.map_eq_some_iff.1 q1
      cases e with
      | panicked ch =>
        obtain ⟨u, h1, h2⟩ := he
        exact ⟨u, h1, h2.1.ren hrn hx', fun hd => h2.2 (renC_dead hx' hd)⟩
      | _ => exact he.elim
end
end Go.Vx
namespace Go.Vx
open Go Go.RowKit
section
variable {P : Program} {ti : TI} {N N' : Nat} {outs outs' : Nat → Prop} {E E' : Env} {s : S} {a : Act} {w w' : World} {ob ob' : Ref → Option Ob} {ρ : Ref → Option Ref} {orc : Orc} {cf : Cfg} {ops : Array Oper}

theorem freeze_get (s : S) (G : List Ref) : ∀ r o, (s.upds (G.map (·, .gone))).get r = some o → without G s.get r = some o ∨ o = .gone := by
  intro r o h
  rw [freeze_upds] at h
  cases hg : s.get r with
  | none => rw [hg] at h; cases h
  | some x =>
    rw [hg] at h
    simp only [Option.some.injEq] at h
    by_cases hr : r ∈ G
    · rw [if_pos hr] at h; exact .inr h.symm
    · rw [if_neg hr] at h
      subst h
      left
      unfold without
      cases hp : posR r G with
      | none => exact hg
      | some i => exact absurd (List.mem_of_getElem? (posR_some hp)) hr
/-- More places that are gone. -/
theorem RelO.goneMore (h : RelO N outs E ob w) (h1 : ∀ r o, ob' r = some o → ob r = some o ∨ o = .gone) (h2 : ∀ r o, ob r = some o → ob' r = some o ∨ ob' r = some .gone) : RelO N outs E ob' w ∧ Le w E ob w E ob' := by
  have hle : Le w E ob w E ob' := by
    refine ⟨fun _ _ h => h, fun _ _ _ => rfl, fun r hl => ?_, fun _ _ => rfl, fun r e sz n hl he => ?_⟩
    · obtain ⟨o, ho, hne⟩ := hl
      rcases h2 r o ho with h | h
      · exact ⟨o, h, hne⟩
      · exact ⟨_, h, by simp⟩
    · rcases h1 r _ he with h | h
      · exact ⟨n, h, Nat.le_refl _, fun _ => rfl⟩
      · cases h
  refine ⟨⟨fun r o ho => ?_, fun r r' o o' k k1 k2 k3 k4 => ?_, fun r o k k1 k2 => ?_, h.has, h.low⟩, hle⟩
  · rcases h1 r o ho with h' | rfl
    · exact Ro_keep hle rfl rfl (fun _ _ => rfl) (fun _ _ _ h => h) (h.objs r o h')
    · trivial
  · rcases h1 r o k1 with k1 | rfl
    · rcases h1 r' o' k2 with k2 | rfl
      · exact h.apart r r' o o' k k1 k2 k3 k4
      · cases k4
    · cases k3
  · rcases h1 r o k1 with k1 | rfl
    · exact h.mine r o k k1 k2
    · cases k2
theorem freeze_all (hr : RelO N outs E s.get w) (G : List Ref) : RelO N outs ⟨E.b, E.v, stG E s.get G⟩ (s.upds (G.map (·, .gone))).get w ∧ Le w ⟨E.b, E.v, stG E s.get G⟩ (without G s.get) w ⟨E.b, E.v, stG E s.get G⟩ (s.upds (G.map (·, .gone))).get := by
  refine (freeze_o hr G).goneMore (freeze_get s G) (fun r o ho => ?_)
  rw [freeze_upds]
  rcases without_get ho with ⟨hG, rfl, o', h', _⟩ | ⟨hG, h'⟩
  · rw [h']; simp [hG]
  · rw [h']
    by_cases hr : r ∈ G
    · right; simp [hr]
    · left; simp [hr]
theorem upds_o_len : ∀ (wr : List (Ref × Ob)) (s : S), (s.upds wr).o.length = s.o.length
  | [], s => rfl
  | (r, o) :: wr, s => by rw [S.upds, upds_o_len wr]; cases r <;> simp [S.upd]
theorem Rv.goesOver {v : V} {u : Value} (h : Rv w E ob v u) (hle : Le w E ob w' E' ob') : Rv w' E' ob' v u := h.le hle
/-- The function's end. -/
theorem retE_sound (hti : TIok P cf.ti) (hr : Rel N outs E s a w) {f : FuncId} {fn : Func} {out : Out} {objs' : List Ob} (h : retE cf f fn s = some (out, objs')) :
    ∃ v, (results fn a.tmps).run P w = .ok v w ∧ ∃ E', RelO N outs E' (obOf objs') w ∧ Sn N outs E E' ∧ LeO w E s.o w E' objs' ∧ OutR w E' (obOf objs') out (.returned v) := by
  unfold retE at h
  split at h
  case h_2 => cases h
  rename_i vs hvs
  obtain ⟨us, hus, hrun⟩ := results_sound hti hr hvs
  obtain ⟨G, hG⟩ : ∃ G, G = heldBy cf s.get f vs := ⟨_, rfl⟩
  simp only [← hG] at h
  obtain ⟨vs', hvs'⟩ : ∃ vs', vs' = goOver cf s.get f fn.resultTypes.toList G vs := ⟨_, rfl⟩
  rw [← hvs'] at h
  have hv1 : Pv w ⟨E.b, E.v, stG E s.get G⟩ (without G s.get) vs' us := by rw [hvs']; exact goOver_sound hr.o hus
  obtain ⟨hr1, hle1⟩ := freeze_all hr.o G
  have hv2 := hv1.le hle1
  cases hall : vs'.all isR1 with
  | false => rw [hall] at h; cases h
  | true =>
    rw [hall] at h
    simp only [cond_true] at h
    obtain ⟨E', k1, k2, k3, k4⟩ := pack_sound hr1 h
    refine ⟨_, hrun, E', k1, fun b x hx => freeze_sn hr.o G b x (by rw [k2] at hx; exact hx), ?_, k4 (.returned _) ?_⟩
    · exact Le.trans (Le.toO (s := s) (s' := s.upds (G.map (·, .gone))) (Le.trans (freeze_le E s.get G w) hle1)) k3
    · have htup : ∀ {l : List V} {us : List Value}, Pv w ⟨E.b, E.v, stG E s.get G⟩ (s.upds (G.map (·, .gone))).get l us → l.all isR1 = true → Rv w ⟨E.b, E.v, stG E s.get G⟩ (s.upds (G.map (·, .gone))).get (.tup l) (.tuple us.toArray) := by
        intro l us hp ha
        refine ⟨us, rfl, hp.1, fun j x hx => ?_⟩
        obtain ⟨y, hy, hR⟩ := hp.2 j x hx
        exact ⟨y, hy, R1.to hR (List.all_eq_true.1 ha x (List.mem_of_getElem? hx))⟩
      match vs', us, hv2, hall with
      | [], [], hp, ha => exact htup hp ha
      | [v], [u], hp, ha => obtain ⟨y, hy, hR⟩ := hp.2 0 v rfl; cases hy; exact hR
      | v :: v' :: l, u :: u' :: l', hp, ha => exact htup hp ha
      | [], u :: us, hp, ha => exact absurd hp.1 (by simp)
      | [v], [], hp, ha => exact absurd hp.1 (by simp)
      | [v], u :: u' :: us, hp, ha => exact absurd hp.1 (by simp)
      | v :: v' :: l, [], hp, ha => exact absurd hp.1 (by simp)
      | v :: v' :: l, [u], hp, ha => exact absurd hp.1 (by simp)
end
end Go.Vx
namespace Go.Vx
open Go Go.RowKit
section
variable {P : Program} {ti : TI} {N N' : Nat} {outs outs' : Nat → Prop} {E E' : Env} {s s' : S} {a : Act} {w w' : World} {ob ob' : Ref → Option Ob} {ρ : Ref → Option Ref} {orc : Orc} {cf : Cfg} {ops : Array Oper} {do' : DOrc}

/-- No function of the program bears the name of the one that is answered by the machine itself. -/
def Named (P : Program) : Prop := ∀ (f : FuncId) (fn : Func), P.funcs[f]? = some fn → (fn.name == "runtime.NumGoroutine") = false
/-- The open regions of the functions that may be run are so. -/
def OkF (P : Program) (cf : Cfg) : Prop := ∀ f fn c, cf.ok f = true → P.funcs[f]? = some fn → fn.body = some c → codeOk c = true
theorem run_enter {f : FuncId} {fn : Func} {c : Code} (hf : P.funcs[f]? = some fn) (hname : (fn.name == "runtime.NumGoroutine") = false) (hb : fn.body = some c) (args : Array Value) (w : World) :
    (callFunc f args).run P w = .ok (.enter f args) w := by
  have h' : ¬ fn.name = "runtime.NumGoroutine" := by simpa using hname
  simp [callFunc, hf, h', hb]
/-- The way a frame goes, and what was thrown. -/
def ModeOk (w : World) (E : Env) (ob : Ref → Option Ob) : Option C → FrameMode → Prop
  | none, u => u = .returning
  | some x, u => ∃ v, u = .panicking [{ v := v, recovered := false }] ∧ R1 w E ob (.c x) v ∧ refsC x = []
/-- What is told of deferred calls is so. -/
def OKd (P : Program) (do' : DOrc) : Prop := ∀ f x args objs objs', do' f x args objs = some objs' → ∀ (w : World) (E : Env) (us : List Value) (u : FrameMode),
  RelO w.heap.size (ownBy E objs) E (obOf objs) w → Pv w E (obOf objs) args us → ModeOk w E (obOf objs) x u →
  ∃ as1, (invoke (.fn (.func f) #[]) us.toArray).run P w = .ok (.enter f as1) w ∧ CallsD P f as1 u w fun e u' w' => (∃ v, e = .returned v) ∧ settle u' = .returning ∧ CallPost w E objs objs' (.ret (.tup [])) (.returned (.tuple #[])) w'
theorem dfrEff_sound (ok : OKd P do') (hr : RelO N outs E s.get w) {f : FuncId} {x : Option C} {args : List V} {us : List Value} {u : FrameMode} (hv : Pv w E s.get args us) (hu : ModeOk w E s.get x u) (h : dfrEff do' s x f args = some s') :
    ∃ as1, (invoke (.fn (.func f) #[]) us.toArray).run P w = .ok (.enter f as1) w ∧ CallsD P f as1 u w fun e u' w' => (∃ v, e = .returned v) ∧ settle u' = .returning ∧
      (s'.t = s.t ∧ s'.d = s.d) ∧ ∃ E', RelO N outs E' s'.get w' ∧ Le w E s.get w' E' s'.get ∧ Fr N outs w w' ∧ Sn N outs E E' := by
  unfold dfrEff at h
  obtain ⟨m, hm⟩ : ∃ m, m = reach s.get (fun _ => true) 64 0 (addR [] (args.flatMap refsV1)) := ⟨_, rfl⟩
  simp only [← hm] at h
  split at h
  case h_2 => cases h
  rename_i objs as1 ho ha
  split at h
  case h_2 => cases h
  rename_i objs' hdo
  split at h
  case isFalse => cases h
  rename_i hlen
  obtain ⟨os, hos, rfl⟩ := Option.map_eq_some_iff.1 h
  have hol : os.length = m.length := by rw [(mapO_get hos).1, hlen]
  have hdrop : os.drop m.length = [] := List.drop_eq_nil_of_le (by omega)
  have hwr : s.wroteAt (([] : List Ref).map (·, .gone) ++ m.zip os) 0 (os.drop m.length) = s.upds (m.zip os) := by
    rw [hdrop]
    simp [S.wroteAt, fillL]
  obtain ⟨E2, h1, h2, h4, h3⟩ := call_both hr (args1 := args) (us := us) (G := []) (m := m) (objs := objs) (objs' := objs') (os := os) (as1 := as1) (out := .ret (.tup [])) (out' := .ret (.tup [])) (base := 0)
    (hv.le (freeze_le E s.get [] w)) (by rw [hm]; exact reach_nodup0) ho ha (by omega) hos rfl (Nat.zero_le _) (fun i h1 h2 => by rw [hdrop] at h2; simp at h2)
  have hu2 : ModeOk w E2 (obOf objs) x u := by
    cases x with
    | none => exact hu
    | some x =>
      obtain ⟨v, hu1, hu2, hu3⟩ := hu
      exact ⟨v, hu1, h4 x v (R1.le (freeze_le E s.get [] w) hu2) hu3, hu3⟩
  obtain ⟨as2, k1, k2⟩ := ok f x as1 objs objs' hdo w E2 us u h1 h2 hu2
  refine ⟨as2, k1, k2.mono ?_⟩
  rintro e u' w' ⟨q1, q2, q3⟩
  obtain ⟨E', j1, j2, j3, j4, j5⟩ := h3 _ _ q3
  rw [hwr] at j1 j2
  exact ⟨q1, q2, ⟨upds_t _ _, upds_d _ _⟩, E', j1, j2, j3, j4⟩
/-- A function's body, run. -/
theorem s0_get (t : List V) (objs : List Ob) (d : List (FuncId × List V)) : (S.mk t [] objs d).get = obOf objs := by
  funext r
  cases r <;> simp [S.get, obOf]
theorem rel0 {objs : List Ob} {args : List V} {us : List Value} {n : Nat} (hr : RelO N outs E (obOf objs) w) (hv : Pv w E (obOf objs) args us) :
    Rel N outs E ⟨args ++ List.replicate (n - args.length) (.c .dead), [], objs, []⟩ { tmps := us.toArray ++ Array.replicate (n - us.toArray.size) undef, defers := [] } w := by
  refine Rel.of (by rw [s0_get]; exact hr) (fun i v hi => ?_) ?_ ?_
  · rw [s0_get]
    rcases Nat.lt_or_ge i args.length with hl | hl
    · rw [List.getElem?_append_left hl] at hi
      obtain ⟨u, hu, hR⟩ := hv.2 i v hi
      refine ⟨u, ?_, hR⟩
      rw [Array.getElem?_append_left (by simp [hv.1]; exact hl)]
      simpa using hu
    · rw [List.getElem?_append_right hl] at hi
      rw [List.getElem?_replicate] at hi
      split at hi
      case isFalse => cases hi
      rename_i hlt
      cases hi
      refine ⟨undef, ?_, trivial, fun h => absurd rfl h⟩
      rw [Array.getElem?_append_right (by simp [hv.1]; exact hl)]
      simp only [List.size_toArray, hv.1, Array.getElem?_replicate]
      rw [if_pos hlt]
  · simp [hv.1]
  · exact ⟨rfl, fun j p hp => by simp at hp⟩
theorem CallPost.of {objs objs' : List Ob} {out : Out} {e : Ending} {E1 E2 : Env} {w1 w2 : World} {o1 : List Ob} (hf : Fr w.heap.size (ownBy E objs) w w1) (hs : Sn w.heap.size (ownBy E objs) E E1) (hl : LeO w E objs w1 E1 o1)
    (hf2 : Fr w.heap.size (ownBy E objs) w1 w2) (hs2 : Sn w.heap.size (ownBy E objs) E1 E2) (hl2 : LeO w1 E1 o1 w2 E2 objs') (hr : RelO w.heap.size (ownBy E objs) E2 (obOf objs') w2) (ho : OutR w2 E2 (obOf objs') out e) :
    CallPost w E objs objs' out e w2 := ⟨E2, hr, Le.trans hl hl2, hf.trans hf2, hs.trans hs2, ho⟩
theorem evFn_ok (hti : TIok P cf.ti) (hP : cf.P = P) (hn : Named P) (ok : OKo P orc) (hd : DrawnOk P cf orc) (hok : OkF P cf) (okd : OKd P do') (fuel : Nat) : OKo P (evFn cf do' orc fuel) := by
  intro f args objs out objs' h w E us hr hv
  unfold evFn at h
  rw [hP] at h
  split at h
  case h_1 => cases h
  rename_i fn hfn
  split at h
  case h_1 => cases h
  rename_i c hc
  cases hcf : cf.ok f with
  | false => rw [hcf] at h; cases h
  | true =>
  rw [hcf] at h
  simp only [Bool.not_true, cond_false] at h
  have hcalls : Calls P f us.toArray w (CallPost w E objs objs' out) := by
    refine calls_of_wp_defers hfn hc ?_
    have hr0 := rel0 (n := fn.ntmps) hr hv
    have fin : ∀ {s' : S} {a : Act} {w' : World} {E' : Env}, Rel w.heap.size (ownBy E objs) E' s' a w' → Fr w.heap.size (ownBy E objs) w w' → Sn w.heap.size (ownBy E objs) E E' → LeO w E objs w' E' s'.o → retE cf f fn s' = some (out, objs') →
        ∃ v, (results fn a.tmps).run P w' = .ok v w' ∧ CallPost w E objs objs' out (.returned v) w' := by
      intro s' a w' E' k1 k2 k3 k4 hret
      obtain ⟨v, hv, E2, j1, j2, j3, j4⟩ := retE_sound hti k1 hret
      exact ⟨v, hv, CallPost.of k2 k3 k4 (Fr.refl _) j2 j3 j1 j4⟩
    have dfr : ∀ {s s' : S} {a : Act} {w' : World} {E' : Env} {x : Option C} {u : FrameMode}, Rel w.heap.size (ownBy E objs) E' s a w' → Fr w.heap.size (ownBy E objs) w w' → Sn w.heap.size (ownBy E objs) E E' → LeO w E objs w' E' s.o →
        unwindE do' s x s.d = some s' → ModeOk w' E' s.get x u → u ≠ .run → retE cf f fn s' = some (out, objs') → Leaves P fn a.tmps (CallPost w E objs objs' out) a.defers u w' := by
      intro s s' a w' E' x u k1 k2 k3 k4 hun hm hne hret
      unfold unwindE at hun
      split at hun
      · cases hun
      · rename_i g gargs hsd
        have hde := k1.defers
        rw [hsd] at hde
        obtain ⟨us', hus', hpv⟩ := hde.2 0 _ rfl
        have hlen := hde.1
        obtain ⟨d, hd'⟩ : ∃ d, a.defers = [d] := by
          match ha : a.defers, hlen with
          | [d], _ => exact ⟨d, rfl⟩
        rw [hd'] at hus' ⊢
        cases hus'
        obtain ⟨as1, q1, q2⟩ := dfrEff_sound okd k1.o hpv hm hun
        refine leaves_cons hne q1 (q2.mono ?_)
        rintro e u' w2 ⟨⟨v, rfl⟩, hset, ⟨ht, hdd⟩, E2, j1, j2, j3, j4⟩
        simp only [hset]
        have hrel : Rel w.heap.size (ownBy E objs) E2 s' a w2 := by
          refine Rel.of j1 (fun i x hi => ?_) (by rw [ht]; exact k1.size) (by rw [hdd]; exact k1.defers.le j2)
          rw [ht] at hi
          obtain ⟨u, hu, hR⟩ := k1.tmps i x hi
          exact ⟨u, hu, hR.le j2⟩
        exact fin hrel (k2.trans j3) (k3.trans j4) (Le.trans k4 (Le.toO j2)) hret
      · cases hun
    have normal : ∀ {s : S} {a : Act} {w' : World} {E' : Env}, (match s.d with | [] => retE cf f fn s | d => match unwindE do' s none d with | some s' => retE cf f fn s' | none => none) = some (out, objs') →
        Rel w.heap.size (ownBy E objs) E' s a w' → Fr w.heap.size (ownBy E objs) w w' → Sn w.heap.size (ownBy E objs) E E' → LeO w E objs w' E' s.o → Leaves P fn a.tmps (CallPost w E objs objs' out) a.defers .returning w' := by
      intro s a w' E' h k1 k2 k3 k4
      split at h
      · rename_i hsd
        have hde := k1.defers.1
        rw [hsd] at hde
        rw [List.length_eq_zero_iff.1 hde]
        exact fin k1 k2 k3 k4 h
      · split at h
        case h_2 => cases h
        rename_i s' hun
        exact dfr (x := none) k1 k2 k3 k4 hun rfl (by simp) h
    split at h
    · rename_i s hx
      exact exec_wp hti hP ok hd fuel (hok f fn c hcf hfn hc) hx hr0 (fun E' a w' k1 k2 k3 k4 => normal h k1 k2 k3 k4)
    · rename_i s hx
      exact exec_wp hti hP ok hd fuel (hok f fn c hcf hfn hc) hx hr0 (fun E' a w' k1 k2 k3 k4 => normal h k1 k2 k3 k4)
    · rename_i x s hx
      refine exec_wp hti hP ok hd fuel (hok f fn c hcf hfn hc) hx hr0 (fun E' a w' u k1 k2 k3 k4 k5 => ?_)
      show Leaves P fn a.tmps _ a.defers (.panicking _) w'
      split at h
      · rename_i hsd
        have hde := k1.defers.1
        rw [hsd] at hde
        rw [List.length_eq_zero_iff.1 hde]
        obtain ⟨E2, j1, j2, j3, j4⟩ := pack_sound k1.o h
        exact CallPost.of k2 k3 k4 (Fr.refl _) (fun b x hx => .inl (by rw [← j2]; exact hx)) j3 j1 (j4 (.panicked _) ⟨u, rfl, k5⟩)
      · split at h
        case h_2 => cases h
        rename_i s' hrx hun
        exact dfr (x := some x) k1 k2 k3 k4 hun ⟨u, rfl, k5, hrx⟩ (by simp) h
    · cases h
  unfold Does
  rw [run_enter hfn (hn f fn hfn) hc]
  exact hcalls
end
end Go.Vx
namespace Go.Vx
open Go Go.RowKit
section
variable {P : Program} {ti : TI} {orc : Orc} {cf : Cfg} {ops : Array Oper} {s s2 s' : S}

/-! Sameness. -/
theorem sameVal_eq : ∀ (a b : Value), sameVal a b = true → a = b
  | .iface t a, .iface u b, h => by
    simp only [sameVal, Bool.and_eq_true] at h
    rw [eq_of_beq h.1, sameVal_eq a b h.2]
  | .bool a, .bool b, h => by simp only [sameVal] at h; rw [eq_of_beq h]
  | .int k a, .int j b, h => by simp only [sameVal, Bool.and_eq_true] at h; rw [eq_of_beq h.1, eq_of_beq h.2]
  | .string a, .string b, h => by simp only [sameVal] at h; rw [of_decide_eq_true h]
  | .map none, .map none, h => rfl
  | .pointer none, .pointer none, h => rfl
  | .nilIface, .nilIface, h => rfl
  | .nilFunc, .nilFunc, h => rfl
mutual
theorem D.same_eq : ∀ {a b : D}, a.same b = true → a = b
  | .m a, .m b, h => by simp only [D.same] at h; rw [sameVal_eq _ _ h]
  | .nl, .nl, h => rfl
  | .em a, .em b, h => by simp only [D.same] at h; rw [eq_of_beq h]
  | .rows sz rs, .rows sz' rs', h => by
    simp only [D.same, Bool.and_eq_true] at h
    rw [eq_of_beq h.1, D.sameLL_eq h.2]
theorem D.sameLL_eq : ∀ {a b : List (List D)}, D.same.sameLL a b = true → a = b
  | [], [], h => rfl
  | a :: l, b :: l', h => by
    simp only [D.same.sameLL, Bool.and_eq_true] at h
    rw [D.sameL_eq h.1, D.sameLL_eq h.2]
theorem D.sameL_eq : ∀ {a b : List D}, D.same.sameL a b = true → a = b
  | [], [], h => rfl
  | a :: l, b :: l', h => by
    simp only [D.same.sameL, Bool.and_eq_true] at h
    rw [D.same_eq h.1, D.sameL_eq h.2]
end
theorem sameDs_eq : ∀ {a b : List D}, sameDs a b = true → a = b
  | [], [], h => rfl
  | a :: l, b :: l', h => by
    simp only [sameDs, Bool.and_eq_true] at h
    rw [D.same_eq h.1, sameDs_eq h.2]
  | [], _ :: _, h => by cases h
  | _ :: _, [], h => by cases h
theorem sameRs_eq : ∀ {a b : List Ref}, sameRs a b = true → a = b
  | [], [], h => rfl
  | a :: l, b :: l', h => by
    simp only [sameRs, Bool.and_eq_true] at h
    rw [Ref.eqb_iff.1 h.1, sameRs_eq h.2]
  | [], _ :: _, h => by cases h
  | _ :: _, [], h => by cases h
theorem C.same_eq {a b : C} (h : a.same b = true) : a = b := by
  cases a with
  | d a => cases b <;> simp [C.same] at h; rw [D.same_eq h]
  | tk r sz rs => cases b <;> simp [C.same] at h; have := D.same_eq h.2; cases this; rw [Ref.eqb_iff.1 h.1]
  | sl r o z n => cases b <;> simp [C.same] at h; obtain ⟨⟨⟨h1, h2⟩, h3⟩, h4⟩ := h; rw [Ref.eqb_iff.1 h1, h2, h3, h4]
  | ptr r o => cases b <;> simp [C.same] at h; rw [Ref.eqb_iff.1 h.1, h.2]
  | rp cs => cases b <;> simp [C.same] at h; rw [sameDs_eq h]
  | mp r => cases b <;> simp [C.same] at h; rw [Ref.eqb_iff.1 h]
  | fn f c => cases b <;> simp [C.same] at h; rw [h.1, sameRs_eq h.2]
  | dead => cases b <;> simp [C.same] at h; rfl
theorem sameCs_eq : ∀ {a b : List C}, sameCs a b = true → a = b
  | [], [], h => rfl
  | a :: l, b :: l', h => by
    simp only [sameCs, Bool.and_eq_true] at h
    rw [C.same_eq h.1, sameCs_eq h.2]
  | [], _ :: _, h => by cases h
  | _ :: _, [], h => by cases h
theorem sameEs_eq : ∀ {a b : List (Value × C)}, sameEs a b = true → a = b
  | [], [], h => rfl
  | (k, a) :: l, (k', b) :: l', h => by
    simp only [sameEs, Bool.and_eq_true] at h
    rw [sameVal_eq _ _ h.1.1, C.same_eq h.1.2, sameEs_eq h.2]
  | [], _ :: _, h => by cases h
  | _ :: _, [], h => by cases h
theorem Ob.same_eq {a b : Ob} (h : a.same b = true) : a = b := by
  cases a with
  | box e cs => cases b <;> simp [Ob.same] at h; rw [h.1, sameCs_eq h.2]
  | tok e sz n => cases b <;> simp [Ob.same] at h; rw [h.1.1, h.1.2, h.2]
  | map es => cases b <;> simp [Ob.same] at h; rw [sameEs_eq h]
  | iter t n => cases b <;> simp [Ob.same] at h; rw [h.1, h.2]
  | pmap es => cases b <;> simp [Ob.same] at h
  | hole => cases b <;> simp [Ob.same] at h; rfl
  | gone => cases b <;> simp [Ob.same] at h; rfl
theorem lastB_eq (r : Ref) : ∀ l : List (Ref × Ob), lastB r l = lastW r l
  | [] => rfl
  | (q, o) :: l => by
    simp only [lastB, lastW, lastB_eq r l]
    cases lastW r l with
    | some x => rfl
    | none =>
      by_cases h : r = q
      · subst h; rw [if_pos rfl, Ref.eqb_iff.2 rfl]; rfl
      · rw [if_neg h]
        cases hb : r.eqb q with
        | true => exact absurd (Ref.eqb_iff.1 hb) h
        | false => rfl
theorem lastW_filter (c : Ref → Bool) (r : Ref) : ∀ l : List (Ref × Ob), lastW r (l.filter fun p => c p.1) = if c r then lastW r l else none
  | [] => by simp [lastW]
  | (q, o) :: l => by
    rw [List.filter_cons]
    by_cases hq : r = q
    · subst hq
      cases hc : c r with
      | true =>
        have ih := lastW_filter c r l
        rw [hc] at ih
        simp only [if_true] at ih
        simp only [if_true, lastW, ih]
      | false =>
        have ih := lastW_filter c r l
        rw [hc] at ih
        simp only [Bool.false_eq_true, if_false] at ih ⊢
        exact ih
    · split
      · simp only [lastW, lastW_filter c r l, if_neg hq]
        cases c r with
        | true => simp
        | false => simp
      · simp only [lastW, lastW_filter c r l, if_neg hq]
        cases c r with
        | true => simp; cases lastW r l <;> rfl
        | false => simp
/-- What is behind a write of one name. -/
def over (x y : Option Ob) : Option Ob := match x, y with
  | some _, some o => some o
  | x, _ => x
theorem over_turned {get : Ref → Option Ob} {wr : List (Ref × Ob)} {r : Ref} {x : Option Ob} (h : get r = x) : over x (lastW r (turned get wr)) = over x (lastW r wr) := by
  unfold turned
  rw [lastW_filter (turnedC get wr)]
  unfold turnedC
  rw [lastB_eq, h]
  cases x with
  | none => simp [over]
  | some o =>
    cases hl : lastW r wr with
    | none => simp [over]
    | some o' =>
      simp only []
      by_cases hs : o.same o' = true
      · simp only [hs, Bool.not_true, Bool.false_eq_true, if_false]; simp [over, Ob.same_eq hs]
      · simp [over, hs]
theorem turned_sub {get : Ref → Option Ob} {wr : List (Ref × Ob)} {p : Ref × Ob} (h : p ∈ turned get wr) : p ∈ wr := (List.mem_filter.1 h).1

/-! States, by what lies in them. -/
theorem S.ext_get (h1 : s.t = s2.t) (h2 : s.d = s2.d) (h3 : ∀ r, s.get r = s2.get r) : s = s2 := by
  obtain ⟨t, l, o, d⟩ := s
  obtain ⟨t2, l2, o2, d2⟩ := s2
  simp only at h1 h2
  have hl : l = l2 := List.ext_getElem? fun i => h3 (.loc i)
  have ho : o = o2 := List.ext_getElem? fun i => h3 (.out i)
  rw [h1, h2, hl, ho]
def pad (s : S) (n : Nat) : S := { s with l := s.l ++ List.replicate n .hole }
theorem pad_out (s : S) (n i : Nat) : (pad s n).get (.out i) = s.get (.out i) := rfl
theorem pad_loc (s : S) (n k : Nat) : (pad s n).get (.loc k) = if k < s.l.length then s.get (.loc k) else if k < s.l.length + n then some .hole else none := by
  show (s.l ++ List.replicate n .hole)[k]? = _
  by_cases h : k < s.l.length
  · rw [if_pos h, List.getElem?_append_left h]; rfl
  · rw [if_neg h, List.getElem?_append_right (by omega), List.getElem?_replicate]
    by_cases h2 : k < s.l.length + n
    · rw [if_pos h2, if_pos (by omega)]
    · rw [if_neg h2, if_neg (by omega)]
def dstOf (ops : Array Oper) (i : Nat) : Option Tmp := (ops[i]?).bind (·.dst)
def Stp.app (ops : Array Oper) (s : S) (x : Stp) : S := match x.act with
  | .go v _ new => (s.wroteAt x.wr x.base new).put (dstOf ops x.i) v
  | _ => s
def stD (ops : Array Oper) (D : Nat → Bool) : List Stp → S → S
  | [], s => s
  | x :: T, s => stD ops D T (bif D x.i then x.app ops s else s)
theorem put_t (s : S) (d : Option Tmp) (v : V) (i : Nat) : (s.put d v).t[i]? = if d = some i ∧ i < s.t.length then some v else s.t[i]? := by
  cases d with
  | none => simp [S.put]
  | some d =>
    simp only [S.put, List.getElem?_set]
    by_cases h : d = i
    · subst h
      by_cases h2 : d < s.t.length
      · simp [h2]
      · simp [h2]
    · simp [h]
theorem put_tlen (s : S) (d : Option Tmp) (v : V) : (s.put d v).t.length = s.t.length := by cases d <;> simp [S.put]
theorem put_d (s : S) (d : Option Tmp) (v : V) : (s.put d v).d = s.d := by cases d <;> rfl
theorem put_l (s : S) (d : Option Tmp) (v : V) : (s.put d v).l = s.l := by cases d <;> rfl
theorem put_o (s : S) (d : Option Tmp) (v : V) : (s.put d v).o = s.o := by cases d <;> rfl
theorem app_tlen (x : Stp) : (x.app ops s).t.length = s.t.length := by
  unfold Stp.app
  split
  · rw [put_tlen, wroteAt_t]
  · rfl
theorem app_d (x : Stp) : (x.app ops s).d = s.d := by
  unfold Stp.app
  split
  · rw [put_d, wroteAt_d]
  · rfl
theorem fillL_len {α : Type} {l : List α} {b : Nat} {new : List α} (h : b + new.length ≤ l.length) : (fillL l b new).length = l.length := by
  unfold fillL
  simp
  omega
theorem app_llen {x : Stp} (h : x.base + x.act.new.length ≤ s.l.length) : (x.app ops s).l.length = s.l.length := by
  unfold Stp.app
  split
  · rename_i v wr new ha
    rw [put_l]
    unfold S.wroteAt
    rw [ha] at h
    rw [fillL_len (by rw [upds_len]; exact h), upds_len]
  · rfl
theorem app_t_same {x : Stp} {d : Nat} (h : s.t[d]? = s2.t[d]?) : (x.app ops s).t[d]? = (x.app ops s2).t[d]? := by
  unfold Stp.app
  split
  · rw [put_t, put_t, wroteAt_t, wroteAt_t, h]
    have : d < s.t.length ↔ d < s2.t.length := by
      rcases Nat.lt_or_ge d s.t.length with h1 | h1
      · rw [List.getElem?_eq_getElem h1] at h
        exact ⟨fun _ => (List.getElem?_eq_some_iff.1 h.symm).1, fun _ => h1⟩
      · rw [List.getElem?_eq_none h1] at h
        exact ⟨fun h2 => by omega, fun h2 => by rw [List.getElem?_eq_getElem h2] at h; cases h⟩
    simp only [this]
  · exact h
theorem app_t_ne {x : Stp} {d : Nat} (h : dstOf ops x.i ≠ some d) : (x.app ops s).t[d]? = s.t[d]? := by
  unfold Stp.app
  split
  · rw [put_t, wroteAt_t, if_neg (fun hh => h hh.1)]
  · rfl
theorem app_get {x : Stp} {v : V} {wr : List (Ref × Ob)} {new : List Ob} (ha : x.act = .go v wr new) (hb : x.base ≤ s.l.length) (r : Ref) :
    (x.app ops s).get r = if inNew x.base new.length r = true then (match r with | .loc i => new[i - x.base]? | .out _ => none) else over (s.get r) (lastW r x.wr) := by
  unfold Stp.app
  rw [ha]
  simp only []
  rw [put_get, wroteAt_get hb, upds_get]
  cases r with
  | loc i =>
    simp only [inNew, Bool.and_eq_true, Nat.ble_eq, Nat.blt_eq]
    rfl
  | out i =>
    simp only [inNew, Bool.false_eq_true, if_false]
    rfl
theorem app_nogo {x : Stp} (h : ∀ v wr new, x.act ≠ .go v wr new) : x.app ops s = s := by
  unfold Stp.app
  split
  · exact absurd ‹_› (h _ _ _)
  · rfl
theorem app_get_same {x : Stp} {r : Ref} (hb : x.base ≤ s.l.length) (hb2 : x.base ≤ s2.l.length) (h : s.get r = s2.get r) : (x.app ops s).get r = (x.app ops s2).get r := by
  by_cases hg : ∃ v wr new, x.act = .go v wr new
  · obtain ⟨v, wr, new, ha⟩ := hg
    rw [app_get ha hb, app_get ha hb2, h]
  · rw [app_nogo (fun v wr new ha => hg ⟨v, wr, new, ha⟩), app_nogo (fun v wr new ha => hg ⟨v, wr, new, ha⟩), h]
theorem hits_no {x : Stp} {r : Ref} (h : x.hits r = false) : inNew x.base x.act.new.length r = false ∧ lastW r x.wr = none := by
  unfold Stp.hits at h
  rw [Bool.or_eq_false_iff] at h
  refine ⟨h.2, ?_⟩
  cases hl : lastW r x.wr with
  | none => rfl
  | some o =>
    have := List.any_eq_false.1 h.1 _ (lastW_some hl)
    exact absurd (Ref.eqb_iff.2 rfl) this
theorem over_none (x : Option Ob) : over x none = x := by cases x <;> rfl
theorem app_get_ne {x : Stp} {r : Ref} (hb : x.base ≤ s.l.length) (h : x.hits r = false) : (x.app ops s).get r = s.get r := by
  by_cases hg : ∃ v wr new, x.act = .go v wr new
  · obtain ⟨v, wr, new, ha⟩ := hg
    obtain ⟨h1, h2⟩ := hits_no h
    rw [ha] at h1
    rw [app_get ha hb, h2, over_none, if_neg (by rw [show Act1.new (.go v wr new) = new from rfl] at h1; simp [h1])]
  · rw [app_nogo (fun v wr new ha => hg ⟨v, wr, new, ha⟩)]

/-! Folds. -/
theorem stD_t {D D2 : Nat → Bool} {d : Nat} : ∀ {T : List Stp} {s s2 : S}, (∀ x ∈ T, D x.i ≠ D2 x.i → dstOf ops x.i ≠ some d) → s.t[d]? = s2.t[d]? → (stD ops D T s).t[d]? = (stD ops D2 T s2).t[d]?
  | [], s, s2, h, e => e
  | x :: T, s, s2, h, e => by
    simp only [stD]
    refine stD_t (fun y hy => h y (.tail _ hy)) ?_
    have hx := h x (.head _)
    cases h1 : D x.i <;> cases h2 : D2 x.i
    · exact e
    · rw [cond_false, cond_true, app_t_ne (hx (by rw [h1, h2]; simp))]; exact e
    · rw [cond_false, cond_true, app_t_ne (hx (by rw [h1, h2]; simp))]; exact e
    · exact app_t_same e
theorem stD_d (D : Nat → Bool) : ∀ (T : List Stp) (s : S), (stD ops D T s).d = s.d
  | [], s => rfl
  | x :: T, s => by
    simp only [stD]
    rw [stD_d D T]
    cases D x.i
    · rfl
    · exact app_d x
theorem stD_tlen (D : Nat → Bool) : ∀ (T : List Stp) (s : S), (stD ops D T s).t.length = s.t.length
  | [], s => rfl
  | x :: T, s => by
    simp only [stD]
    rw [stD_tlen D T]
    cases D x.i
    · rfl
    · exact app_tlen x
def Lay (L : Nat) (T : List Stp) : Prop := ∀ x ∈ T, x.base + x.act.new.length ≤ L
theorem stD_llen {D : Nat → Bool} : ∀ {T : List Stp} {s : S}, Lay s.l.length T → (stD ops D T s).l.length = s.l.length
  | [], s, h => rfl
  | x :: T, s, h => by
    simp only [stD]
    have hx : (bif D x.i then x.app ops s else s).l.length = s.l.length := by
      cases D x.i
      · rfl
      · exact app_llen (h x (.head _))
    rw [stD_llen (by rw [hx]; exact fun y hy => h y (.tail _ hy)), hx]
theorem stD_get {D D2 : Nat → Bool} {r : Ref} {L : Nat} : ∀ {T : List Stp} {s s2 : S}, Lay L T → s.l.length = L → s2.l.length = L → (∀ x ∈ T, D x.i ≠ D2 x.i → x.hits r = false) → s.get r = s2.get r → (stD ops D T s).get r = (stD ops D2 T s2).get r
  | [], s, s2, hL, h1, h2, h, e => e
  | x :: T, s, s2, hL, h1, h2, h, e => by
    simp only [stD]
    have hLx := hL x (.head _)
    have hlen : ∀ {b : Bool} {s : S}, s.l.length = L → (bif b then x.app ops s else s).l.length = L := by
      intro b s hs
      cases b
      · exact hs
      · rw [cond_true, app_llen (by rw [hs]; exact hLx)]; exact hs
    refine stD_get (fun y hy => hL y (.tail _ hy)) (hlen h1) (hlen h2) (fun y hy => h y (.tail _ hy)) ?_
    have hx := h x (.head _)
    cases k1 : D x.i <;> cases k2 : D2 x.i
    · exact e
    · rw [cond_false, cond_true, app_get_ne (by omega) (hx (by rw [k1, k2]; simp))]; exact e
    · rw [cond_false, cond_true, app_get_ne (by omega) (hx (by rw [k1, k2]; simp))]; exact e
    · exact app_get_same (by omega) (by omega) e
end
end Go.Vx
namespace Go.Vx
open Go Go.RowKit
section
variable {P : Program} {ti : TI} {orc : Orc} {cf : Cfg} {ops : Array Oper} {s s2 s' : S} {o : Oper} {x : Stp}

/-- A step of the text's order. -/
structure StepOk (cf : Cfg) (orc : Orc) (ops : Array Oper) (s : S) (o : Oper) (x : Stp) : Prop where
  act : actO cf orc ops o s.t s.ev s.get s.l.length = some x.act
  base : x.base = s.l.length
  rd : x.rd = looksW cf ops s o
  here : ∀ r ∈ x.rd, ∃ b, s.get r = some b ∧ b ≠ .hole
  wrd : ∀ p ∈ x.act.wr, p.1 ∈ x.rd
  wr : x.wr = turned s.get x.act.wr
def nextL (s : S) (o : Oper) (x : Stp) : S := match x.act with
  | .go v wr new => (s.wrote wr new).put o.dst v
  | _ => s
def Stp.goes (x : Stp) : Prop := ∃ v wr new, x.act = .go v wr new
def Tr (cf : Cfg) (orc : Orc) (ops : Array Oper) : S → List Stp → S → Prop
  | s, [], s' => s' = s
  | s, x :: T, s' => ∃ o, ops[x.i]? = some o ∧ x.goes ∧ StepOk cf orc ops s o x ∧ Tr cf orc ops (nextL s o x) T s'
theorem there_spec {get : Ref → Option Ob} {l : List Ref} (h : there get l = true) : ∀ r ∈ l, ∃ b, get r = some b ∧ b ≠ .hole := by
  intro r hr
  have := List.all_eq_true.1 h r hr
  split at this
  · cases this
  · rename_i b hne hb
    exact ⟨b, hb, hne⟩
  · cases this
theorem inR_spec {l : List Ref} {r : Ref} (h : inR l r = true) : r ∈ l := by
  obtain ⟨q, hq, he⟩ := List.any_eq_true.1 h
  rw [Ref.eqb_iff.1 he]
  exact hq
theorem nextL_get {v : V} {wr : List (Ref × Ob)} {new : List Ob} (ha : x.act = .go v wr new) (r : Ref) :
    (nextL s o x).get r = if inNew s.l.length new.length r = true then (match r with | .loc i => new[i - s.l.length]? | .out _ => none) else over (s.get r) (lastW r wr) := by
  unfold nextL
  rw [ha]
  simp only []
  rw [put_get, ← wroteAt_end, wroteAt_get (Nat.le_refl _), upds_get]
  cases r with
  | loc i =>
    simp only [inNew, Bool.and_eq_true, Nat.ble_eq, Nat.blt_eq]
    rfl
  | out i =>
    simp only [inNew, Bool.false_eq_true, if_false]
    rfl
theorem nextL_llen {v : V} {wr : List (Ref × Ob)} {new : List Ob} (ha : x.act = .go v wr new) : (nextL s o x).l.length = s.l.length + new.length := by
  unfold nextL
  rw [ha]
  simp only [put_l, S.wrote, List.length_append, upds_len]
theorem step_wr_low (hs : StepOk cf orc ops s o x) {k : Nat} {b : Ob} (h : (Ref.loc k, b) ∈ x.act.wr) : k < s.l.length := by
  obtain ⟨b', hb', _⟩ := hs.here _ (hs.wrd _ h)
  exact (List.getElem?_eq_some_iff.1 hb').1
theorem app_pad (ho : ops[x.i]? = some o) {v : V} {wr : List (Ref × Ob)} {new : List Ob} (ha : x.act = .go v wr new) (hs : StepOk cf orc ops s o x) {n : Nat} (hn : new.length ≤ n) :
    x.app ops (pad s n) = pad (nextL s o x) (n - new.length) := by
  have hdst : dstOf ops x.i = o.dst := by simp [dstOf, ho]
  have hwr : x.wr = turned s.get wr := by rw [hs.wr, ha]; rfl
  have hb : x.base ≤ (pad s n).l.length := by rw [hs.base]; simp [pad]
  refine S.ext_get ?_ ?_ fun r => ?_
  · unfold Stp.app nextL pad
    rw [ha, hdst]
    cases o.dst <;> simp [S.put, wroteAt_t, S.wrote, upds_t]
  · rw [app_d]
    unfold nextL pad
    rw [ha]
    simp [put_d, S.wrote, upds_d]
  · rw [app_get ha hb, hs.base]
    cases r with
    | out i =>
      rw [pad_out, pad_out, nextL_get ha]
      simp only [inNew, Bool.false_eq_true, if_false]
      rw [hwr, over_turned rfl]
    | loc k =>
      rw [pad_loc, pad_loc, nextL_get ha, nextL_llen ha]
      simp only [inNew, Bool.and_eq_true, Nat.ble_eq, Nat.blt_eq]
      by_cases h1 : k < s.l.length
      · rw [if_neg (by omega), if_pos h1, if_pos (by omega), if_neg (by omega), hwr, over_turned rfl]
      · by_cases h2 : k < s.l.length + new.length
        · rw [if_pos ⟨by omega, h2⟩, if_pos h2, if_pos ⟨by omega, h2⟩]
        · have hl : lastW (.loc k) x.wr = none := by
            cases hl : lastW (.loc k) x.wr with
            | none => rfl
            | some b =>
              have := turned_sub (hwr ▸ lastW_some hl)
              have := step_wr_low hs (b := b) (k := k) (by rw [ha]; exact this)
              omega
          rw [if_neg (by omega), if_neg h1, if_neg h2, hl, over_none]
          by_cases h3 : k < s.l.length + n
          · rw [if_pos h3, if_pos (by omega)]
          · rw [if_neg h3, if_neg (by omega)]
theorem stD_none {D : Nat → Bool} : ∀ {T : List Stp} {s : S}, (∀ x ∈ T, D x.i = false) → stD ops D T s = s
  | [], s, h => rfl
  | x :: T, s, h => by
    simp only [stD]
    rw [h x (.head _)]
    exact stD_none fun y hy => h y (.tail _ hy)
theorem Tr_base : ∀ {T : List Stp} {s s' : S}, Tr cf orc ops s T s' → (s.l.length ≤ s'.l.length ∧ ∀ x ∈ T, s.l.length ≤ x.base ∧ x.base + x.act.new.length ≤ s'.l.length) ∧ T.Pairwise fun y x => y.base + y.act.new.length ≤ x.base
  | [], s, s', h => by cases h; exact ⟨⟨Nat.le_refl _, fun x hx => by simp at hx⟩, .nil⟩
  | y :: T, s, s', h => by
    obtain ⟨o, ho, ⟨v, wr, new, ha⟩, hs, ht⟩ := h
    obtain ⟨⟨h1, h2⟩, h3⟩ := Tr_base ht
    rw [nextL_llen ha] at h1 h2
    have hnew : y.act.new.length = new.length := by rw [ha]; rfl
    refine ⟨⟨by omega, fun x hx => ?_⟩, .cons (fun x hx => ?_) h3⟩
    · rcases List.mem_cons.1 hx with rfl | hx
      · rw [hs.base, hnew]; omega
      · have := h2 x hx; omega
    · rw [hs.base, hnew]; exact (h2 x hx).1
theorem Tr_at : ∀ {T : List Stp} {s s' : S}, Tr cf orc ops s T s' → T.Pairwise (fun y x => y.i < x.i) → ∀ {n : Nat}, s'.l.length ≤ s.l.length + n → ∀ x ∈ T,
    ∃ sx o m, ops[x.i]? = some o ∧ x.goes ∧ StepOk cf orc ops sx o x ∧ stD ops (fun j => Nat.blt j x.i) T (pad s n) = pad sx m
  | [], s, s', h, _, n, _, x, hx => by simp at hx
  | y :: T, s, s', h, hp, n, hn, x, hx => by
    obtain ⟨o, ho, hgo, hs, ht⟩ := h
    obtain ⟨v, wr, new, ha⟩ := hgo
    obtain ⟨hp1, hp2⟩ := List.pairwise_cons.1 hp
    have hlen := (Tr_base ht).1.1
    rw [nextL_llen ha] at hlen
    simp only [stD]
    rcases List.mem_cons.1 hx with rfl | hx
    · refine ⟨s, o, n, ho, ⟨v, wr, new, ha⟩, hs, ?_⟩
      have : Nat.blt x.i x.i = false := by cases h : Nat.blt x.i x.i; rfl; rw [Nat.blt_eq] at h; omega
      rw [this, cond_false]
      refine stD_none fun z hz => ?_
      have := hp1 z hz
      cases h : Nat.blt z.i x.i
      · rfl
      · rw [Nat.blt_eq] at h; omega
    · have : Nat.blt y.i x.i = true := by rw [Nat.blt_eq]; exact hp1 x hx
      rw [this, cond_true, app_pad ho ha hs (by omega)]
      exact Tr_at ht hp2 (by rw [nextL_llen ha]; omega) x hx
theorem Tr_all {D : Nat → Bool} : ∀ {T : List Stp} {s s' : S}, Tr cf orc ops s T s' → (∀ x ∈ T, D x.i = true) → ∀ {n : Nat}, s'.l.length ≤ s.l.length + n → stD ops D T (pad s n) = pad s' (s.l.length + n - s'.l.length)
  | [], s, s', h, _, n, hn => by cases h; simp only [stD]; congr 1; omega
  | y :: T, s, s', h, hD, n, hn => by
    obtain ⟨o, ho, ⟨v, wr, new, ha⟩, hs, ht⟩ := h
    have hlen := (Tr_base ht).1.1
    rw [nextL_llen ha] at hlen
    simp only [stD]
    rw [hD y (.head _), cond_true, app_pad ho ha hs (by omega), Tr_all ht (fun x hx => hD x (.tail _ hx)) (by rw [nextL_llen ha]; omega), nextL_llen ha]
    congr 1
    omega
/-- What is not ordered does not meet. -/
def Apart (ops : Array Oper) (y x : Stp) : Prop := (x.meets y = false ∧ y.meets x = false) ∨ ordered ops y.i x.i = true
theorem free1_spec : ∀ {l : List Stp}, free1 ops x l = true → ∀ y ∈ l, Apart ops y x
  | [], _, y, hy => by simp at hy
  | z :: l, h, y, hy => by
    simp only [free1, Bool.and_eq_true, Bool.or_eq_true, Bool.not_eq_true'] at h
    rcases List.mem_cons.1 hy with rfl | hy
    · exact h.1
    · exact free1_spec h.2 y hy
theorem runD_trace : ∀ {is : List Nat} {lg : List Stp} {s : S} {r : R1s}, runD cf orc ops is lg s = some r →
    ∃ T s1, Tr cf orc ops s T s1 ∧ T.Pairwise (Apart ops) ∧ (∀ z ∈ lg, ∀ x ∈ T, Apart ops z x) ∧
      ((r = .go s1 ∧ T.map (·.i) = is) ∨
       ∃ x o y wr new rest, is = T.map (·.i) ++ x.i :: rest ∧ ops[x.i]? = some o ∧ StepOk cf orc ops s1 o x ∧ x.act = .pan y wr new ∧ r = .pan y (s1.wrote wr new) ∧
        (∀ j ∈ rest, behind ops x.i ops.size j = true) ∧ (∀ z, z ∈ lg ∨ z ∈ T → (z.wr = [] ∧ z.act.new = []) ∨ behind ops z.i ops.size x.i = true))
  | [], lg, s, r, h => by
    simp only [runD] at h
    cases h
    exact ⟨[], s, rfl, .nil, fun z hz x hx => by simp at hx, .inl ⟨rfl, rfl⟩⟩
  | i :: is, lg, s, r, h => by
    simp only [runD] at h
    split at h
    · cases h
    rename_i o ho
    split at h
    · cases h
    rename_i act hact
    obtain ⟨x, hx⟩ : ∃ x : Stp, x = ⟨i, s.l.length, act, looksW cf ops s o, turned s.get act.wr⟩ := ⟨_, rfl⟩
    rw [← hx] at h
    have e1 : x.i = i := by rw [hx]
    have e2 : x.base = s.l.length := by rw [hx]
    have e3 : x.act = act := by rw [hx]
    have e4 : x.rd = looksW cf ops s o := by rw [hx]
    have e5 : x.wr = turned s.get act.wr := by rw [hx]
    rw [← e4] at h
    cases hb : (there s.get x.rd && act.wr.all fun p => inR x.rd p.1) with
    | false => rw [hb] at h; cases h
    | true =>
      rw [hb] at h
      simp only [cond_true] at h
      simp only [Bool.and_eq_true] at hb
      have hs : StepOk cf orc ops s o x := ⟨by rw [e3]; exact hact, e2, e4, there_spec hb.1, fun p hp => by rw [e3] at hp; exact inR_spec (List.all_eq_true.1 hb.2 p hp), by rw [e5, e3]⟩
      split at h
      · rename_i v wr new
        cases hf : free1 ops x lg with
        | false => rw [hf] at h; cases h
        | true =>
          rw [hf] at h
          simp only [cond_true] at h
          have hfr := free1_spec hf
          obtain ⟨T, s1, h1, h2, h3, h4⟩ := runD_trace h
          have hnx : nextL s o x = (s.wrote wr new).put o.dst v := by unfold nextL; rw [e3]
          refine ⟨x :: T, s1, ⟨o, by rw [e1]; exact ho, ⟨v, wr, new, e3⟩, hs, by rw [hnx]; exact h1⟩, .cons (fun y hy => h3 x (.head _) y hy) h2, fun z hz y hy => ?_, ?_⟩
          · rcases List.mem_cons.1 hy with rfl | hy
            · exact hfr z hz
            · exact h3 z (.tail _ hz) y hy
          · rcases h4 with ⟨rfl, h5⟩ | ⟨x', o', y, wr', new', rest, q1, q2, q3, q4, q5, q6, q7⟩
            · exact .inl ⟨rfl, by simp [h5, e1]⟩
            · refine .inr ⟨x', o', y, wr', new', rest, by simp [q1, e1], q2, q3, q4, q5, q6, fun z hz => q7 z ?_⟩
              rcases hz with hz | hz
              · exact .inl (.tail _ hz)
              · rcases List.mem_cons.1 hz with rfl | hz
                · exact .inl (.head _)
                · exact .inr hz
      · rename_i y wr new
        cases hf : (is.all (fun j => behind ops i ops.size j) && lg.all fun y => (y.wr.isEmpty && y.act.new.isEmpty) || behind ops y.i ops.size i) with
        | false => rw [hf] at h; cases h
        | true =>
          rw [hf] at h
          simp only [cond_true] at h
          cases h
          simp only [Bool.and_eq_true] at hf
          refine ⟨[], s, rfl, .nil, fun z hz x hx => by simp at hx, .inr ⟨x, o, y, wr, new, is, by simp [e1], by rw [e1]; exact ho, hs, e3, rfl, fun j hj => by rw [e1]; exact List.all_eq_true.1 hf.1 j hj, fun z hz => ?_⟩⟩
          rcases hz with hz | hz
          · have := List.all_eq_true.1 hf.2 z hz
            simp only [Bool.or_eq_true, Bool.and_eq_true, List.isEmpty_iff] at this
            rw [e1]; exact this
          · simp at hz
      · cases h

/-! What is behind. -/
theorem behind_lt (hb : backs ops = true) {i : Nat} : ∀ {n j : Nat}, behind ops i n j = true → i < j
  | 0, j, h => by simp [behind] at h
  | n + 1, j, h => by
    simp only [behind] at h
    split at h
    · cases h
    · rename_i o ho
      obtain ⟨e, he, h⟩ := List.any_eq_true.1 h
      simp only [Bool.and_eq_true, Bool.or_eq_true] at h
      have hj : j < ops.size := (Array.getElem?_eq_some_iff.1 ho).1
      have := List.all_eq_true.1 hb j (List.mem_range.2 hj)
      rw [ho] at this
      have := List.all_eq_true.1 this e he
      simp only [h.1, Bool.not_true, Bool.false_or, Nat.blt_eq] at this
      rcases h.2 with h2 | h2
      · have := Nat.eq_of_beq_eq_true h2; omega
      · have := behind_lt hb h2; omega
def Closed (ops : Array Oper) (D : Nat → Bool) : Prop := ∀ j o, ops[j]? = some o → D j = true → ∀ e ∈ o.after, Region.binds .any e = true → D e.on = true
theorem behind_closed {D : Nat → Bool} (hc : Closed ops D) {i : Nat} : ∀ {n j : Nat}, behind ops i n j = true → D j = true → D i = true
  | 0, j, h, _ => by simp [behind] at h
  | n + 1, j, h, hd => by
    simp only [behind] at h
    split at h
    · cases h
    · rename_i o ho
      obtain ⟨e, he, h⟩ := List.any_eq_true.1 h
      simp only [Bool.and_eq_true, Bool.or_eq_true] at h
      have hde := hc j o ho hd e (Array.mem_toList_iff.1 he) h.1
      rcases h.2 with h2 | h2
      · rw [← Nat.eq_of_beq_eq_true h2]; exact hde
      · exact behind_closed hc h2 hde
theorem behind_ready {D : Nat → Bool} (hc : Closed ops D) {i j : Nat} {o : Oper} (ho : ops[j]? = some o) (hr : ∀ e ∈ o.after, Region.binds .any e = true → D e.on = true) : ∀ {n : Nat}, behind ops i n j = true → D i = true
  | 0, h => by simp [behind] at h
  | n + 1, h => by
    simp only [behind, ho] at h
    obtain ⟨e, he, h⟩ := List.any_eq_true.1 h
    simp only [Bool.and_eq_true, Bool.or_eq_true] at h
    have hde := hr e (Array.mem_toList_iff.1 he) h.1
    rcases h.2 with h2 | h2
    · rw [← Nat.eq_of_beq_eq_true h2]; exact hde
    · exact behind_closed hc h2 hde
theorem apart_of (h : apartAll ops = true) {i j : Nat} {oi oj : Oper} (hi : ops[i]? = some oi) (hj : ops[j]? = some oj) (hlt : j < i) (hn : behind ops j ops.size i ≠ true) : oi.apart ops oj = true := by
  have h1 := List.all_eq_true.1 h i (List.mem_range.2 (Array.getElem?_eq_some_iff.1 hi).1)
  have h2 := List.all_eq_true.1 h1 j (List.mem_range.2 hlt)
  rw [hi, hj] at h2
  simp only [Bool.or_eq_true, Bool.and_eq_true] at h2
  rcases h2 with h2 | h2
  · exact h2.1
  · exact absurd h2 hn
/-- What was done, and what comes ahead in the text, differ in what is not ordered. -/
theorem differ (hA : apartAll ops = true) (hB : backs ops = true) {D : Nat → Bool} (hc : Closed ops D) {i k : Nat} {o ok : Oper} (ho : ops[i]? = some o) (hk : ops[k]? = some ok) (hi : D i = false)
    (hr : ∀ e ∈ o.after, Region.binds .any e = true → D e.on = true) (hd : D k ≠ Nat.blt k i) :
    k ≠ i ∧ behind ops i ops.size k ≠ true ∧ behind ops k ops.size i ≠ true ∧ ∀ d, dstOf ops k = some d → d ∉ o.looksAt ops ∧ dstOf ops i ≠ some d := by
  have hki : k ≠ i := by
    rintro rfl
    apply hd
    rw [hi]
    cases h : Nat.blt k k
    · rfl
    · rw [Nat.blt_eq] at h; omega
  have hdi : dstOf ops i = o.dst := by simp [dstOf, ho]
  have hdk : dstOf ops k = ok.dst := by simp [dstOf, hk]
  rcases Nat.lt_or_ge k i with hlt | hge
  · have hblt : Nat.blt k i = true := by rw [Nat.blt_eq]; exact hlt
    rw [hblt] at hd
    have h1 : behind ops k ops.size i ≠ true := fun h => hd (behind_ready hc ho hr h)
    have h2 : behind ops i ops.size k ≠ true := fun h => by have := behind_lt hB h; omega
    obtain ⟨a1, a2, a3⟩ := Oper.apart_spec (apart_of hA ho hk hlt h1)
    refine ⟨hki, h2, h1, fun d hd => ?_⟩
    rw [hdk] at hd
    rw [hdi]
    exact ⟨a3 d hd, fun h => a2 d h hd⟩
  · have hgt : i < k := by omega
    have hblt : Nat.blt k i = false := by
      cases h : Nat.blt k i
      · rfl
      · rw [Nat.blt_eq] at h; omega
    rw [hblt] at hd
    have hDk : D k = true := by cases h : D k; exact absurd h hd; rfl
    have h1 : behind ops k ops.size i ≠ true := fun h => by have := behind_lt hB h; omega
    have h2 : behind ops i ops.size k ≠ true := fun h => by
      have := behind_closed hc h hDk
      rw [hi] at this; cases this
    obtain ⟨a1, a2, a3⟩ := Oper.apart_spec (apart_of hA hk ho hgt h2)
    refine ⟨hki, h2, h1, fun d hd => ?_⟩
    rw [hdk] at hd
    rw [hdi]
    exact ⟨a1 d hd, a2 d hd⟩
end
end Go.Vx
namespace Go.Vx
open Go Go.RowKit
section
variable {P : Program} {ti : TI} {orc : Orc} {cf : Cfg} {ops : Array Oper} {s s1 s2 s' : S} {o : Oper} {x : Stp} {N : Nat} {outs : Nat → Prop} {E E0 E' : Env} {a : Act} {w w0 w' : World}

theorem pw_get {α : Type} {R : α → α → Prop} : ∀ {T : List α}, T.Pairwise R → ∀ {x y : α}, x ∈ T → y ∈ T → x = y ∨ R x y ∨ R y x
  | [], _, x, y, hx, _ => by simp at hx
  | z :: T, h, x, y, hx, hy => by
    obtain ⟨h1, h2⟩ := List.pairwise_cons.1 h
    rcases List.mem_cons.1 hx with rfl | hx' <;> rcases List.mem_cons.1 hy with rfl | hy'
    · exact .inl rfl
    · exact .inr (.inl (h1 y hy'))
    · exact .inr (.inr (h1 x hx'))
    · exact pw_get h2 hx' hy'
theorem app_late_t {D D' : Nat → Bool} {d : Nat} (h1 : D x.i = false) (h2 : D' x.i = true) (h3 : ∀ j, j ≠ x.i → D' j = D j) : ∀ {T : List Stp} {s : S}, x ∈ T → T.Pairwise (fun y x => y.i < x.i) →
    (∀ y ∈ T, D y.i = true → x.i < y.i → dstOf ops x.i = some d → dstOf ops y.i ≠ some d) → (stD ops D' T s).t[d]? = (x.app ops (stD ops D T s)).t[d]?
  | [], s, hx, _, _ => by simp at hx
  | y :: T, s, hx, hp, hh => by
    obtain ⟨hp1, hp2⟩ := List.pairwise_cons.1 hp
    simp only [stD]
    rcases List.mem_cons.1 hx with rfl | hx
    · rw [h1, h2, cond_true, cond_false]
      by_cases hd : dstOf ops x.i = some d
      · have e1 : (stD ops D' T (x.app ops s)).t[d]? = (stD ops (fun _ => false) T (x.app ops s)).t[d]? := stD_t (fun z hz hne => by
          have hne' : D' z.i = true := by simpa using hne
          have hlt := hp1 z hz
          rw [h3 _ (by omega)] at hne'
          exact hh z (.tail _ hz) hne' hlt hd) rfl
        have e2 : (stD ops D T s).t[d]? = (stD ops (fun _ => false) T s).t[d]? := stD_t (fun z hz hne => hh z (.tail _ hz) (by simpa using hne) (hp1 z hz) hd) rfl
        rw [e1, stD_none (fun _ _ => rfl)]
        refine app_t_same ?_
        rw [e2, stD_none (fun _ _ => rfl)]
      · rw [app_t_ne hd]
        exact stD_t (fun z hz hne => absurd (h3 _ (by have := hp1 z hz; omega)) hne) (app_t_ne hd)
    · have := hp1 x hx
      rw [h3 y.i (by omega)]
      exact app_late_t h1 h2 h3 hx hp2 (fun z hz => hh z (.tail _ hz))
theorem app_late_get {D D' : Nat → Bool} {r : Ref} {L : Nat} (h1 : D x.i = false) (h2 : D' x.i = true) (h3 : ∀ j, j ≠ x.i → D' j = D j) : ∀ {T : List Stp} {s : S}, x ∈ T → T.Pairwise (fun y x => y.i < x.i) → Lay L T → s.l.length = L →
    (∀ y ∈ T, D y.i = true → x.i < y.i → x.hits r = true → y.hits r = false) → (stD ops D' T s).get r = (x.app ops (stD ops D T s)).get r
  | [], s, hx, _, _, _, _ => by simp at hx
  | y :: T, s, hx, hp, hL, hl, hh => by
    obtain ⟨hp1, hp2⟩ := List.pairwise_cons.1 hp
    have hLx := hL y (.head _)
    have hL2 : Lay L T := fun z hz => hL z (.tail _ hz)
    simp only [stD]
    rcases List.mem_cons.1 hx with rfl | hx
    · rw [h1, h2, cond_true, cond_false]
      have hla : (x.app ops s).l.length = L := by rw [app_llen (by omega)]; exact hl
      have hlD : (stD ops D T s).l.length = L := by rw [stD_llen (by rw [hl]; exact hL2)]; exact hl
      cases hd : x.hits r with
      | true =>
        have e1 : (stD ops D' T (x.app ops s)).get r = (stD ops (fun _ => false) T (x.app ops s)).get r := stD_get hL2 hla hla (fun z hz hne => by
          have hne' : D' z.i = true := by simpa using hne
          have hlt := hp1 z hz
          rw [h3 _ (by omega)] at hne'
          exact hh z (.tail _ hz) hne' hlt hd) rfl
        have e2 : (stD ops D T s).get r = (stD ops (fun _ => false) T s).get r := stD_get hL2 hl hl (fun z hz hne => hh z (.tail _ hz) (by simpa using hne) (hp1 z hz) hd) rfl
        rw [e1, stD_none (fun _ _ => rfl)]
        refine app_get_same (by omega) (by omega) ?_
        rw [e2, stD_none (fun _ _ => rfl)]
      | false =>
        rw [app_get_ne (by omega) hd]
        exact stD_get hL2 hla hl (fun z hz hne => absurd (h3 _ (by have := hp1 z hz; omega)) hne) (app_get_ne (by omega) hd)
    · have := hp1 x hx
      rw [h3 y.i (by omega)]
      refine app_late_get h1 h2 h3 hx hp2 hL2 ?_ (fun z hz => hh z (.tail _ hz))
      cases D y.i
      · exact hl
      · rw [cond_true, app_llen (by omega)]; exact hl
theorem pad_get_of {n : Nat} {r : Ref} {b : Ob} (h : s.get r = some b) : (pad s n).get r = some b := by
  cases r with
  | out i => exact h
  | loc k => rw [pad_loc, if_pos (List.getElem?_eq_some_iff.1 h).1]; exact h
theorem meets_no {y : Stp} (h : y.meets x = false) {r : Ref} (hr : r ∈ x.rd) : y.hits r = false := by
  have := List.any_eq_false.1 h r hr
  simpa using this
theorem hits_cases {r : Ref} (h : x.hits r = true) : (∃ b, (r, b) ∈ x.wr) ∨ inNew x.base x.act.new.length r = true := by
  unfold Stp.hits at h
  rcases Bool.or_eq_true_iff.1 h with h | h
  · obtain ⟨p, hp, he⟩ := List.any_eq_true.1 h
    rw [Ref.eqb_iff.1 he]
    exact .inl ⟨p.2, hp⟩
  · exact .inr h
theorem inNew_spec {base n : Nat} {r : Ref} (h : inNew base n r = true) : ∃ k, r = .loc k ∧ base ≤ k ∧ k < base + n := by
  cases r with
  | out i => cases h
  | loc k =>
    simp only [inNew, Bool.and_eq_true, Nat.ble_eq, Nat.blt_eq] at h
    exact ⟨k, rfl, h⟩
theorem next_get {v : V} {wr : List (Ref × Ob)} {new : List Ob} {dst : Option Tmp} {base : Nat} (hb : base ≤ s.l.length) (r : Ref) :
    ((s.wroteAt wr base new).put dst v).get r = if inNew base new.length r = true then (match r with | .loc i => new[i - base]? | .out _ => none) else over (s.get r) (lastW r wr) := by
  rw [put_get, wroteAt_get hb, upds_get]
  cases r with
  | loc i =>
    simp only [inNew, Bool.and_eq_true, Nat.ble_eq, Nat.blt_eq]
    rfl
  | out i =>
    simp only [inNew, Bool.false_eq_true, if_false]
    rfl
theorem step_go (hti : TIok P cf.ti) (hP : cf.P = P) (ok : OKo P orc) (hA : apartAll ops = true) (hB : backs ops = true) {T : List Stp} {n : Nat} (hTr : Tr cf orc ops s T s1) (hpw : T.Pairwise (Apart ops)) (hidx : T.Pairwise fun y x => y.i < x.i)
    (hn : s1.l.length ≤ s.l.length + n) {D D' : Nat → Bool} (hc : Closed ops D) (hx : x ∈ T) (hDx : D x.i = false) (hr : ∀ o, ops[x.i]? = some o → ∀ e ∈ o.after, Region.binds .any e = true → D e.on = true)
    (hD1 : D' x.i = true) (hD2 : ∀ j, j ≠ x.i → D' j = D j) (hrel : Rel N outs E (stD ops D T (pad s n)) a w) {K : Act → World → Prop} {Q : Exit → Act → World → Prop}
    (hK : ∀ E' a' w', Rel N outs E' (stD ops D' T (pad s n)) a' w' → Fr N outs w w' → Sn N outs E E' → Le w E (stD ops D T (pad s n)).get w' E' (stD ops D' T (pad s n)).get → K a' w') :
    wpOp P ops Q x.i K a w := by
  obtain ⟨sx, o, m, ho, ⟨v, wr, new, ha⟩, hs, hpre⟩ := Tr_at hTr hidx hn x hx
  obtain ⟨⟨hb1, hb2⟩, hb3⟩ := Tr_base hTr
  obtain ⟨L, hL⟩ : ∃ L, L = s.l.length + n := ⟨_, rfl⟩
  have hpl : (pad s n).l.length = L := by simp [pad, hL]
  have hLay : Lay L T := fun y hy => by have := hb2 y hy; omega
  obtain ⟨sD, hsD⟩ : ∃ sD, sD = stD ops D T (pad s n) := ⟨_, rfl⟩
  have hsDl : sD.l.length = L := by rw [hsD, stD_llen (by rw [hpl]; exact hLay), hpl]
  have hbase : ∀ y ∈ T, y.i < x.i → y.base + y.act.new.length ≤ x.base := by
    intro y hy hlt
    rcases pw_get (hb3.and hidx) hy hx with h | h | h
    · rw [h] at hlt; omega
    · exact h.1
    · have := h.2; omega
  have hbase2 : ∀ y ∈ T, x.i < y.i → x.base + x.act.new.length ≤ y.base := by
    intro y hy hlt
    rcases pw_get (hb3.and hidx) hy hx with h | h | h
    · rw [h] at hlt; omega
    · have := h.2; omega
    · exact h.1
  have hdiff : ∀ y ∈ T, D y.i ≠ Nat.blt y.i x.i → (y.meets x = false ∧ x.meets y = false) ∧ ∀ d, dstOf ops y.i = some d → d ∉ o.looksAt ops ∧ dstOf ops x.i ≠ some d := by
    intro y hy hne
    obtain ⟨sy, oy, my, hoy, _, _, _⟩ := Tr_at hTr hidx hn y hy
    obtain ⟨d1, d2, d3, d4⟩ := differ hA hB hc ho hoy hDx (hr o ho) hne
    refine ⟨?_, d4⟩
    have no1 : ordered ops x.i y.i ≠ true := fun h => by unfold ordered at h; rcases Bool.or_eq_true_iff.1 h with h | h; exact d2 h; exact d3 h
    have no2 : ordered ops y.i x.i ≠ true := fun h => by unfold ordered at h; rcases Bool.or_eq_true_iff.1 h with h | h; exact d3 h; exact d2 h
    rcases pw_get hpw hy hx with h | h | h
    · rw [h] at d1; exact absurd rfl d1
    · rcases h with h | h
      · exact ⟨h.2, h.1⟩
      · exact absurd h no2
    · rcases h with h | h
      · exact h
      · exact absurd h no1
  have ht : ∀ d ∈ o.looksAt ops, sx.t[d]? = sD.t[d]? := by
    intro d hd
    have : (stD ops D T (pad s n)).t[d]? = (stD ops (fun j => Nat.blt j x.i) T (pad s n)).t[d]? := stD_t (fun y hy hne hdy => ((hdiff y hy hne).2 d hdy).1 hd) rfl
    rw [hsD, this, hpre]
    rfl
  have hg0 : ∀ r ∈ x.rd, sD.get r = sx.get r := by
    intro r hrr
    obtain ⟨b, hb, _⟩ := hs.here r hrr
    have : (stD ops D T (pad s n)).get r = (stD ops (fun j => Nat.blt j x.i) T (pad s n)).get r := stD_get hLay hpl hpl (fun y hy hne => meets_no (hdiff y hy hne).1.1 hrr) rfl
    rw [hsD, this, hpre, pad_get_of hb, hb]
  have hact : actO cf orc ops o sD.t sD.ev sD.get x.base = some (.go v wr new) := by
    rw [actO_congr (P := P) (s := sx) hP ht (fun r hrr => (hg0 r (by rw [hs.rd]; exact hrr)).symm), hs.base, hs.act, ha]
  have hnew : x.act.new = new := by rw [ha]; rfl
  have hwr : x.wr = turned sx.get wr := by rw [hs.wr, ha]; rfl
  have hwrd : ∀ p ∈ wr, p.1 ∈ x.rd := by have := hs.wrd; rw [ha] at this; exact this
  have hlate : ∀ y ∈ T, D y.i = true → x.i < y.i → ∀ r, x.hits r = true → y.hits r = false := by
    intro y hy hDy hlt r hxr
    have hm := (hdiff y hy (by rw [hDy]; cases h : Nat.blt y.i x.i; simp; rw [Nat.blt_eq] at h; omega)).1
    rcases hits_cases hxr with ⟨b, hb⟩ | hb
    · exact meets_no hm.1 (hwrd _ (turned_sub (hwr ▸ hb)))
    · cases hyr : y.hits r with
      | false => rfl
      | true =>
        exfalso
        rcases hits_cases hyr with ⟨b, hb'⟩ | hb'
        · obtain ⟨sy, oy, my, hoy, _, hsy, _⟩ := Tr_at hTr hidx hn y hy
          have := meets_no hm.2 (hsy.wrd _ (turned_sub (hsy.wr ▸ hb')))
          rw [this] at hxr; cases hxr
        · obtain ⟨k, rfl, q1, q2⟩ := inNew_spec hb
          obtain ⟨k', hk', q3, q4⟩ := inNew_spec hb'
          cases hk'
          have := hbase2 y hy hlt
          omega
  have hbs : x.base ≤ sD.l.length := by have := hb2 x hx; omega
  have hrel' : Rel N outs E sD a w := by rw [hsD]; exact hrel
  refine act_wp hti hP ok hrel' ho hact hbs (fun k hk1 hk2 => ?_) (fun _ E' a' w' k1 k2 k3 k4 => ?_) (fun y wr' new' he => by cases he)
  · have hk2 : k < x.base + new.length := hk2
    have hxr : x.hits (.loc k) = true := by
      unfold Stp.hits
      rw [hnew]
      simp only [inNew, Bool.or_eq_true, Bool.and_eq_true, Nat.ble_eq, Nat.blt_eq]
      exact .inr ⟨hk1, hk2⟩
    have : (stD ops D T (pad s n)).get (.loc k) = (stD ops (fun _ => false) T (pad s n)).get (.loc k) := stD_get hLay hpl hpl (fun y hy hne => by
      have hDy : D y.i = true := by simpa using hne
      have hyx : y.i ≠ x.i := fun e => by rw [e, hDx] at hDy; cases hDy
      rcases Nat.lt_or_ge x.i y.i with hlt | hge
      · exact hlate y hy hDy hlt _ hxr
      · cases hyr : y.hits (.loc k) with
        | false => rfl
        | true =>
          exfalso
          have hb := hbase y hy (by omega)
          rcases hits_cases hyr with ⟨b, hb'⟩ | hb'
          · obtain ⟨sy, oy, my, hoy, _, hsy, _⟩ := Tr_at hTr hidx hn y hy
            have := step_wr_low hsy (turned_sub (hsy.wr ▸ hb'))
            rw [← hsy.base] at this
            omega
          · obtain ⟨k', hk', q3, q4⟩ := inNew_spec hb'
            cases hk'
            omega) rfl
    rw [hsD, this, stD_none (fun _ _ => rfl), pad_loc]
    have := (hb2 x hx).1
    rw [if_neg (by omega)]
    split
    · exact .inr rfl
    · exact .inl rfl
  · have heq : (Act1.go v wr new).next sD o.dst x.base = stD ops D' T (pad s n) := by
      show (sD.wroteAt wr x.base new).put o.dst v = _
      refine S.ext_get (List.ext_getElem? fun d => ?_) ?_ fun r => ?_
      · rw [app_late_t hDx hD1 hD2 hx hidx (fun y hy hDy hlt hd hdy => ((hdiff y hy (by rw [hDy]; cases h : Nat.blt y.i x.i; simp; rw [Nat.blt_eq] at h; omega)).2 d hdy).2 hd), ← hsD]
        unfold Stp.app
        rw [ha]
        simp only []
        rw [put_t, put_t, wroteAt_t, wroteAt_t]
        simp [dstOf, ho]
      · rw [put_d, wroteAt_d, hsD, stD_d, stD_d]
      · rw [app_late_get hDx hD1 hD2 hx hidx hLay hpl (fun y hy hDy hlt hxr => hlate y hy hDy hlt r hxr), ← hsD, app_get ha hbs, next_get hbs]
        split
        · rfl
        · rw [hwr]
          by_cases hm : ∃ b, (r, b) ∈ wr
          · obtain ⟨b, hb⟩ := hm
            rw [over_turned (hg0 r (hwrd _ hb)).symm]
          · have e1 : lastW r wr = none := by
              cases hl : lastW r wr with
              | none => rfl
              | some b => exact absurd ⟨b, lastW_some hl⟩ hm
            have e2 : lastW r (turned sx.get wr) = none := by
              cases hl : lastW r (turned sx.get wr) with
              | none => rfl
              | some b => exact absurd ⟨b, turned_sub (lastW_some hl)⟩ hm
            rw [e1, e2]
    rw [heq] at k1 k4
    rw [hsD] at k4
    exact hK E' a' w' k1 k2 k3 k4
end
end Go.Vx
