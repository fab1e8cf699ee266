import PyProof.Rows.All
import Wide.All
import OpenK.AllK
import Wide.FinOn
import HandS.ForMost
import HandS.Deep
import HandS.Zip
import HandS.ForExc
import HandS.TupAny
import HandS.TupMul
import HandS.IsInst
import KE.DataMinMax
import PyProof.SumAny
import PyProof.ReprRoads
import PyProof.CallFns
import HandS.Comp
import HandS.Iter
import HandS.ExcOwn
import HandS.Style
import HandS.WordsExc
import HandS.Ends
import HandS.Defaults
import HandS.HeadHook1
import HandS.HeadHook2
import HandS.HeadHook3
import HandS.HeadHook4
import HandS.HeadEnd
import KE.KStateDown
import Lean
import HandS.Head0
import HandS.Head1
import HandS.Head2
import PyProof.ReprLen
import PyProof.P3Eq
import PySem.Challenge.RW_farbeats_k22_where_houses_are
set_option Elab.async false
set_option linter.all false
set_option maxRecDepth 100000
/-! values, the small language and its evaluator: no program in sight -/
namespace Fb
open PySem

/-- a value: data that never changes, the n-th object of the store, or the script -/
inductive D where
  | d (p : PyData)
  | ref (n : Nat)
  | scr (ns : List Int)
/-- an object of the store -/
inductive Ob where
  | lst (xs : List D)
abbrev Sto := List Ob
/-- how a run ends -/
inductive Out (α : Type) where
  | ok (a : α) (s : Sto)
  | exc (c : String) (p : PyData) (s : Sto)
  | bad
def M (α : Type) : Type := Sto → Out α
namespace M
def pure {α : Type} (a : α) : M α := fun s => .ok a s
def bind {α β : Type} (m : M α) (f : α → M β) : M β := fun s => match m s with
  | .ok a s' => f a s'
  | .exc c p s' => .exc c p s'
  | .bad => .bad
def bad {α : Type} : M α := fun _ => .bad
def lift {α : Type} : Option α → M α
  | some a => M.pure a
  | none => M.bad
/-- no exception may leave -/
def calm {α : Type} (m : M α) : M α := fun s => match m s with
  | .ok a s' => .ok a s'
  | _ => .bad
end M
instance : Monad M where
  pure := M.pure
  bind := M.bind
theorem M.pure_eq {α : Type} (a : α) : (Pure.pure a : M α) = M.pure a := rfl
theorem M.bind_eq {α β : Type} (m : M α) (f : α → M β) : (m >>= f) = M.bind m f := rfl
@[simp] theorem M.pure_bind {α β : Type} (a : α) (f : α → M β) : M.bind (M.pure a) f = f a := rfl
@[simp] theorem M.bad_bind {α β : Type} (f : α → M β) : M.bind (M.bad : M α) f = M.bad := rfl
@[simp] theorem M.bind_pure {α : Type} (m : M α) : M.bind m M.pure = m := by
  funext s; unfold M.bind; cases m s <;> rfl
@[simp] theorem M.bind_bind {α β γ : Type} (m : M α) (f : α → M β) (g : β → M γ) : M.bind (M.bind m f) g = M.bind m (fun a => M.bind (f a) g) := by
  funext s; unfold M.bind; cases m s <;> rfl
@[simp] theorem M.lift_some {α : Type} (a : α) : M.lift (some a) = M.pure a := rfl
@[simp] theorem M.lift_none {α : Type} : M.lift (none : Option α) = M.bad := rfl
@[simp] theorem M.calm_pure {α : Type} (a : α) : M.calm (M.pure a) = M.pure a := rfl

/-- a name's place: nothing, a value, a list of the frame's own that grows -/
inductive Sl where
  | un
  | v (x : D)
  | own (xs : List PyData)
abbrev Env := List Sl

/-! ### operations on values -/
abbrev int (i : Int) : D := .d (.int i)
abbrev bl (b : Bool) : D := .d (.bool b)
abbrev tup (xs : List PyData) : D := .d (.tuple xs)
abbrev lst (xs : List PyData) : D := .d (.list xs)
abbrev non : D := .d .none
inductive Bo | add | sub | mul | fdiv | mod | pow
  deriving DecidableEq
inductive Cm | eq | ne | lt | le | gt | ge | is | isnot | in_ | notin
  deriving DecidableEq
def fits64 (i : Int) : Bool := decide (-(2 ^ 64) < i) && decide (i < 2 ^ 64)
def fitsLine (n : Nat) : Bool := decide (n ≤ 16777216)
def Bo.run : Bo → PyData → PyData → Option PyData
  | .add, .int i, .int j => some (.int (i + j))
  | .add, .str x, .str y => if fitsLine (x.length + y.length) then some (.str (x ++ y)) else none
  | .add, .tuple xs, .tuple ys => if fitsLine (xs.length + ys.length) then some (.tuple (xs ++ ys)) else none
  | .add, .list xs, .list ys => if fitsLine (xs.length + ys.length) then some (.list (xs ++ ys)) else none
  | .sub, .int i, .int j => some (.int (i - j))
  | .mul, .int i, .int j => if fits64 i || fits64 j then some (.int (i * j)) else none
  | .mul, .tuple xs, .int k => if 2 ≤ k ∧ k ≤ 1000 ∧ xs.length ≤ 1000 ∧ ¬ xs = [] then some (.tuple (List.replicate k.toNat xs).flatten) else none
  | .mul, .list xs, .int k => if 0 ≤ k ∧ k ≤ 1000 ∧ xs.length ≤ 1000 then some (.list (List.replicate k.toNat xs).flatten) else none
  | .fdiv, .int i, .int j => if 0 < j ∧ j < 1073741824 then some (.int (i / j)) else none
  | .mod, .int i, .int j => if 0 < j then some (.int (i % j)) else none
  | .pow, .int i, .int j => if 0 ≤ j ∧ j ≤ 1000000 ∧ i.natAbs < 2 ^ 64 then some (.int (i ^ j.toNat)) else none
  | _, _, _ => none
def eqP : PyData → PyData → Option Bool
  | .int i, .int j => some (decide (i = j))
  | .bool i, .bool j => some (decide (i = j))
  | .str i, .str j => some (decide (i = j))
  | a, b => if SeqAt.shaped a && SeqAt.shaped b then some (PyData.eqv a b) else none
def Cm.run : Cm → PyData → PyData → Option Bool
  | .eq, a, b => eqP a b
  | .ne, a, b => (eqP a b).map not
  | .lt, .int i, .int j => some (decide (i < j))
  | .le, .int i, .int j => some (decide (i ≤ j))
  | .gt, .int i, .int j => some (decide (j < i))
  | .ge, .int i, .int j => some (decide (j ≤ i))
  | .is, a, .none => some (match a with | .none => true | _ => false)
  | .isnot, a, .none => some (match a with | .none => false | _ => true)
  | .in_, a, .list xs => if SeqAt.shaped a && SeqAt.shaped (.list xs) then some (xs.any fun z => PyData.eqv z a) else none
  | .notin, a, .list xs => if SeqAt.shaped a && SeqAt.shaped (.list xs) then some (!xs.any fun z => PyData.eqv z a) else none
  | .in_, a, .tuple xs => if SeqAt.shaped a && SeqAt.shaped (.tuple xs) then some (xs.any fun z => PyData.eqv z a) else none
  | .notin, a, .tuple xs => if SeqAt.shaped a && SeqAt.shaped (.tuple xs) then some (!xs.any fun z => PyData.eqv z a) else none
  | _, _, _ => none
/-- the truth of a value -/
def truth : PyData → Option Bool
  | .none => some false
  | .bool b => some b
  | .int i => some (i != 0)
  | .list xs => some (!xs.isEmpty)
  | .tuple xs => some (!xs.isEmpty)
  | _ => none
def ixP : PyData → Int → Option PyData
  | .tuple xs, i => L2.atI xs i
  | .list xs, i => L2.atI xs i
  | _, _ => none
def cutP : PyData → Option Int → Option Int → Option PyData
  | .tuple xs, lo, hi => some (.tuple ((xs.drop (HT.sIx xs.length 0 lo)).take (HT.sIx xs.length xs.length hi - HT.sIx xs.length 0 lo)))
  | .list xs, lo, hi => some (.list ((xs.drop (HT.sIx xs.length 0 lo)).take (HT.sIx xs.length xs.length hi - HT.sIx xs.length 0 lo)))
  | _, _, _ => none
def intsOf : List PyData → Option (List Int)
  | [] => some []
  | .int i :: r => (intsOf r).map (i :: ·)
  | _ :: _ => none
def boolsOf : List PyData → Option (List Bool)
  | [] => some []
  | .bool i :: r => (boolsOf r).map (i :: ·)
  | _ :: _ => none
inductive Bl | len | tuple | list | sum | all | any | abs | max2 | min2 | maxL | minL | repr | int
  deriving DecidableEq
def maxI (x : Int) (xs : List Int) : Int := xs.foldl max x
def minI (x : Int) (xs : List Int) : Int := xs.foldl min x
def Bl.run : Bl → List PyData → Option PyData
  | .len, [.tuple xs] => some (.int xs.length)
  | .len, [.list xs] => some (.int xs.length)
  | .len, [.str x] => if fitsLine x.length then some (.int x.length) else none
  | .tuple, [.tuple xs] => some (.tuple xs)
  | .tuple, [.list xs] => some (.tuple xs)
  | .list, [.tuple xs] => some (.list xs)
  | .list, [.list xs] => some (.list xs)
  | .sum, [.list xs] => (intsOf xs).map fun ns => .int ns.sum
  | .sum, [.tuple xs] => (intsOf xs).map fun ns => .int ns.sum
  | .all, [.list xs] => (boolsOf xs).map fun bs => .bool (bs.all id)
  | .any, [.list xs] => (boolsOf xs).map fun bs => .bool (bs.any id)
  | .abs, [.int i] => some (.int (if i < 0 then -i else i))
  | .max2, [.int i, .int j] => some (.int (if j > i then j else i))
  | .min2, [.int i, .int j] => some (.int (if j < i then j else i))
  | .maxL, [.list xs] => match intsOf xs with
    | some (n :: ns) => some (.int (maxI n ns))
    | _ => none
  | .minL, [.list xs] => match intsOf xs with
    | some (n :: ns) => some (.int (minI n ns))
    | _ => none
  | .repr, [p] => if p.showable && !p.hasDict && fitsLine p.shown.length && SeqAt.shaped p then some (.str p.shown) else none
  | .int, [.int i] => some (.int i)
  | .int, [.bool b] => some (.int (if b then 1 else 0))
  | _, _ => none
/-- the built-in classes that isinstance is asked of -/
inductive Ty | int | bool | str | tuple | list
  deriving DecidableEq
def Ty.is : Ty → PyData → Bool
  | .int, .int _ => true
  | .int, .bool _ => true
  | .bool, .bool _ => true
  | .str, .str _ => true
  | .tuple, .tuple _ => true
  | .list, .list _ => true
  | _, _ => false

/-! ### the language -/
mutual
inductive T where
  | nm (i : Nat)
  | tp (ts : Ts)
inductive Ts where
  | nil
  | cons (t : T) (ts : Ts)
end
mutual
inductive E where
  | var (i : Nat)
  | cst (p : PyData)
  | glo (x : String)
  | tup (es : Es)
  | lst (es : Es)
  | nref (es : Es)
  | bin (o : Bo) (a b : E)
  | neg (a : E)
  | not (a : E)
  | cmp (c : Cm) (a b : E)
  | chn (c c' : Cm) (a b d : E)
  | and (a b : E)
  | or (a b : E)
  | ife (t a b : E)
  | ix (a i : E)
  | cut (a : E) (lo hi : Oe)
  | call (f : String) (es : Es)
  | blt (f : Bl) (es : Es)
  | isi (a : E) (t : Ty)
  | lc (own : List Nat) (g : G)
inductive Es where
  | nil
  | cons (e : E) (es : Es)
inductive Oe where
  | no
  | yes (e : E)
/-- what a loop walks -/
inductive It where
  | seq (e : E)
  | rng1 (a : E)
  | rng2 (a b : E)
  | zip (a b : E)
  | enum (a : E)
/-- a comprehension's clauses, then its item -/
inductive G where
  | fin (e : E)
  | gen (it : It) (t : T) (c : Oe) (g : G)
end
mutual
inductive S where
  | set (t : T) (e : E)
  | par (is : List Nat) (es : Es)
  | parO (is : List Nat) (es : Es) (os : List Bool)
  | own (i : Nat) (e : E)
  | frz (i : Nat)
  | app (i : Nat) (e : E)
  | rset (o i e : E)
  | expr (e : E)
  | ret (e : E)
  | retN
  | ifs (t : E) (a b : Ss)
  | for_ (it : It) (t : T) (b : Ss)
  | while_ (t : E) (b : Ss)
  | raise (c : String) (m : String)
inductive Ss where
  | nil
  | cons (s : S) (ss : Ss)
end
structure Fn where
  ps : Nat
  ns : Nat
  body : Ss

/-! ### the evaluator -/
abbrev Calls := String → List D → M D
abbrev Cons := String → Option PyData
def Sl.get : Sl → Option D
  | .v x => some x
  | _ => none
def D.dat : D → Option PyData
  | .d p => some p
  | _ => none
def datas : List D → Option (List PyData)
  | [] => some []
  | .d p :: r => (datas r).map (p :: ·)
  | _ :: _ => none
/-- d's data, or nothing goes on -/
def need {α : Type} (x : D) (k : PyData → M α) : M α := match x with
  | .d p => k p
  | _ => M.bad
@[simp] theorem need_d {α : Type} (p : PyData) (k : PyData → M α) : need (.d p) k = k p := rfl
def ixD (x : D) (i : PyData) : M D := match i with
  | .int k => (match x with
    | .d p => M.lift ((ixP p k).map D.d)
    | .ref n => fun s => match s[n]? with
      | some (.lst xs) => (match L2.atI xs k with
        | some v => .ok v s
        | none => .bad)
      | none => .bad
    | .scr ns => M.lift ((L2.atI ns k).map int))
  | _ => M.bad
/-- a built-in function -/
def Bl.runD (f : Bl) (xs : List D) : M D := match f, xs with
  | .len, [.scr ns] => M.pure (D.d (.int ns.length))
  | f, xs => M.lift (((datas xs).bind f.run).map D.d)
def partOf : PyData → Option (Option Int)
  | .int i => some (some i)
  | _ => none
def Ts.len : Ts → Nat
  | .nil => 0
  | .cons _ ts => ts.len + 1
mutual
def T.bind : T → D → Env → Option Env
  | .nm i, x, env => if i < env.length then some (env.set i (.v x)) else none
  | .tp ts, .d (.tuple ps), env => ts.bind (ps.map D.d) env
  | .tp _, _, _ => none
def Ts.bind : Ts → List D → Env → Option Env
  | .nil, [], env => some env
  | .cons t ts, x :: xs, env => (t.bind x env).bind fun env' => ts.bind xs env'
  | _, _, _ => none
end
def wipeE (env : Env) : List Nat → Env
  | [] => env
  | v :: vs => (wipeE env vs).set v .un
def rangeL (lo : Int) (n : Nat) : List D := (List.range n).map fun (k : Nat) => int (lo + (k : Int))
def rng62 (i : Int) : Bool := decide (-(2 ^ 62) ≤ i) && decide (i < 2 ^ 62)
def rangeM (i j : Int) : M (List D) := if rng62 i && rng62 j && fitsLine (j - i).toNat then M.pure (rangeL i (j - i).toNat) else M.bad
def zipL : List PyData → List PyData → List D
  | x :: xs, y :: ys => tup [x, y] :: zipL xs ys
  | _, _ => []
def enumL : Nat → List PyData → List D
  | _, [] => []
  | k, x :: xs => tup [.int k, x] :: enumL (k + 1) xs
def seqP : PyData → Option (List PyData)
  | .tuple xs => some xs
  | .list xs => some xs
  | _ => none
/-- turn by turn, the lists laid one behind the other -/
def flatM (f : D → M (List PyData)) : List D → M (List PyData)
  | [] => M.pure []
  | x :: xs => M.bind (f x) fun ys => M.bind (flatM f xs) fun zs => M.pure (ys ++ zs)
variable (Φ : Calls) (C : Cons)
mutual
def E.ev : E → Env → M D
  | .var i, env => M.lift ((env[i]?).bind Sl.get)
  | .cst p, _ => M.pure (.d p)
  | .glo x, _ => M.lift ((C x).map D.d)
  | .tup es, env => M.bind (es.ev env) fun xs => M.lift ((datas xs).map tup)
  | .lst es, env => M.bind (es.ev env) fun xs => M.lift ((datas xs).map lst)
  | .nref es, env => M.bind (es.ev env) fun xs => fun s => .ok (.ref s.length) (s ++ [.lst xs])
  | .bin o a b, env => M.bind (a.ev env) fun x => M.bind (b.ev env) fun y => need x fun p => need y fun q => M.lift ((o.run p q).map D.d)
  | .neg a, env => M.bind (a.ev env) fun x => need x fun p => match p with
    | .int i => M.pure (int (-i))
    | _ => M.bad
  | .not a, env => M.bind (a.ev env) fun x => need x fun p => match p with
    | .bool b => M.pure (bl (!b))
    | _ => M.bad
  | .cmp c a b, env => M.bind (a.ev env) fun x => M.bind (b.ev env) fun y => need x fun p => need y fun q => M.lift ((c.run p q).map bl)
  | .chn c c' a b d, env => M.bind (a.ev env) fun x => M.bind (b.ev env) fun y => need x fun p => need y fun q => M.bind (M.lift (c.run p q)) fun k =>
      if k = true then M.bind (d.ev env) fun z => need z fun r => M.lift ((c'.run q r).map bl) else M.pure (bl false)
  | .and a b, env => M.bind (a.ev env) fun x => need x fun p => match p with
    | .bool true => b.ev env
    | .bool false => M.pure (bl false)
    | _ => M.bad
  | .or a b, env => M.bind (a.ev env) fun x => need x fun p => match p with
    | .bool true => M.pure (bl true)
    | .bool false => b.ev env
    | _ => M.bad
  | .ife t a b, env => M.bind (t.tst env) fun k => if k = true then a.ev env else b.ev env
  | .ix a i, env => M.bind (a.ev env) fun x => M.bind (i.ev env) fun y => need y fun q => ixD x q
  | .cut a lo hi, env => M.bind (a.ev env) fun x => M.bind (lo.prt env) fun l => M.bind (hi.prt env) fun h => need x fun p => M.lift ((cutP p l h).map D.d)
  | .call f es, env => M.bind (es.ev env) fun xs => Φ f xs
  | .blt f es, env => M.bind (es.ev env) fun xs => f.runD xs
  | .isi a t, env => M.bind (a.ev env) fun x => need x fun p => M.pure (bl (t.is p))
  | .lc own g, env => M.calm (M.bind (g.ev (wipeE env own)) fun ps => if fitsLine ps.length then M.pure (lst ps) else M.bad)
/-- as a test -/
def E.tst : E → Env → M Bool
  | .not a, env => M.bind (a.tst env) fun k => M.pure (!k)
  | .and a b, env => M.bind (a.tst env) fun k => if k = true then b.tst env else M.pure false
  | .or a b, env => M.bind (a.tst env) fun k => if k = true then M.pure true else b.tst env
  | .cmp c a b, env => M.bind (a.ev env) fun x => M.bind (b.ev env) fun y => need x fun p => need y fun q => M.lift (c.run p q)
  | .chn c c' a b d, env => M.bind (a.ev env) fun x => M.bind (b.ev env) fun y => need x fun p => need y fun q => M.bind (M.lift (c.run p q)) fun k =>
      if k = true then M.bind (d.ev env) fun z => need z fun r => M.lift (c'.run q r) else M.pure false
  | .call f es, env => M.bind (M.bind (es.ev env) fun xs => Φ f xs) fun x => need x fun p => M.lift (truth p)
  | .blt f es, env => M.bind (M.bind (es.ev env) fun xs => f.runD xs) fun x => need x fun p => M.lift (truth p)
  | .isi a t, env => M.bind (a.ev env) fun x => need x fun p => M.pure (t.is p)
  | .var i, env => M.bind (M.lift ((env[i]?).bind Sl.get)) fun x => need x fun p => M.lift (truth p)
  | _, _ => M.bad
def Es.ev : Es → Env → M (List D)
  | .nil, _ => M.pure []
  | .cons e es, env => M.bind (e.ev env) fun x => M.bind (es.ev env) fun xs => M.pure (x :: xs)
def Oe.prt : Oe → Env → M (Option Int)
  | .no, _ => M.pure none
  | .yes e, env => M.bind (e.ev env) fun x => need x fun p => M.lift (partOf p)
/-- a clause's test -/
def Oe.ok : Oe → Env → M Bool
  | .no, _ => M.pure true
  | .yes e, env => e.tst env
def It.ev : It → Env → M (List D)
  | .seq e, env => M.bind (e.ev env) fun x => need x fun p => M.lift ((seqP p).map fun ps => ps.map D.d)
  | .rng1 a, env => M.bind (a.ev env) fun x => need x fun p => match p with
    | .int j => rangeM 0 j
    | _ => M.bad
  | .rng2 a b, env => M.bind (a.ev env) fun x => M.bind (b.ev env) fun y => need x fun p => need y fun q => match p, q with
    | .int i, .int j => rangeM i j
    | _, _ => M.bad
  | .zip a b, env => M.bind (a.ev env) fun x => M.bind (b.ev env) fun y => need x fun p => need y fun q => match p, q with
    | .tuple xs, .tuple ys => M.pure (zipL xs ys)
    | .list xs, .list ys => M.pure (zipL xs ys)
    | _, _ => M.bad
  | .enum a, env => M.bind (a.ev env) fun x => need x fun p => match p with
    | .list ps => M.pure (enumL 0 ps)
    | _ => M.bad
def G.ev : G → Env → M (List PyData)
  | .fin e, env => M.bind (e.ev env) fun x => need x fun p => M.pure [p]
  | .gen it t c g, env => M.bind (it.ev env) fun xs => flatM (fun x => M.bind (M.lift (t.bind x env)) fun env' => M.bind (c.ok env') fun k =>
      if k = true then g.ev env' else M.pure []) xs
end

/-- how a statement ends -/
inductive Fl where
  | nx (env : Env)
  | ret (x : D)
def forL (f : D → Env → M Fl) : List D → Env → M Fl
  | [], env => M.pure (.nx env)
  | x :: xs, env => M.bind (f x env) fun r => match r with
    | .nx env' => forL f xs env'
    | .ret v => M.pure (.ret v)
def whileL (c : Env → M Bool) (f : Env → M Fl) : Nat → Env → M Fl
  | 0, _ => M.bad
  | n + 1, env => M.bind (c env) fun k => if k = true then M.bind (f env) fun r => match r with
      | .nx env' => whileL c f n env'
      | .ret v => M.pure (.ret v)
    else M.pure (.nx env)
def setMany : List Nat → List D → Env → Option Env
  | [], [], env => some env
  | i :: is, x :: xs, env => if i < env.length then setMany is xs (env.set i (.v x)) else none
  | _, _, _ => none
/-- what is stored: a value, or a list of the frame's own -/
def slotOf : Bool → D → Option Sl
  | false, x => some (.v x)
  | true, .d (.list ps) => some (.own ps)
  | true, _ => none
def slotsOf : List Bool → List D → Option (List Sl)
  | [], [] => some []
  | o :: os, x :: xs => (slotOf o x).bind fun s => (slotsOf os xs).map (s :: ·)
  | _, _ => none
def putMany : List Nat → List Sl → Env → Option Env
  | [], [], env => some env
  | i :: is, x :: xs, env => if i < env.length then putMany is xs (env.set i x) else none
  | _, _, _ => none
def asInt : PyData → Option Int
  | .int i => some i
  | _ => none
def rsetM (o : D) (i : PyData) (v : D) : M Unit := match o, i with
  | .ref n, .int k => fun s => match s[n]? with
    | some (.lst xs) => (match L2.ixN xs.length k with
      | some j => .ok () (s.set n (.lst (xs.set j v)))
      | none => .bad)
    | none => .bad
  | _, _ => M.bad
mutual
def S.ev : S → Env → M Fl
  | .set t e, env => M.bind (e.ev Φ C env) fun x => M.bind (M.lift (t.bind x env)) fun env' => M.pure (.nx env')
  | .par is es, env => M.bind (es.ev Φ C env) fun xs => M.bind (M.lift (setMany is xs env)) fun env' => M.pure (.nx env')
  | .parO is es os, env => M.bind (es.ev Φ C env) fun xs => M.bind (M.lift (slotsOf os xs)) fun ss => M.bind (M.lift (putMany is ss env)) fun env' => M.pure (.nx env')
  | .own i e, env => M.bind (e.ev Φ C env) fun x => need x fun p => match p with
    | .list xs => if i < env.length then M.pure (.nx (env.set i (.own xs))) else M.bad
    | _ => M.bad
  | .frz i, env => match env[i]? with
    | some (.own xs) => M.pure (.nx (env.set i (.v (lst xs))))
    | _ => M.bad
  | .app i e, env => match env[i]? with
    | some (.own xs) => M.bind (e.ev Φ C env) fun x => need x fun p => if xs.length < 16777216 then M.pure (.nx (env.set i (.own (xs ++ [p])))) else M.bad
    | _ => M.bad
  | .rset o i e, env => M.bind (e.ev Φ C env) fun x => M.bind (o.ev Φ C env) fun y => M.bind (i.ev Φ C env) fun z => need z fun k => M.bind (rsetM y k x) fun _ => M.pure (.nx env)
  | .expr e, env => M.bind (e.ev Φ C env) fun _ => M.pure (.nx env)
  | .ret e, env => M.bind (e.ev Φ C env) fun x => M.pure (.ret x)
  | .retN, _ => M.pure (.ret non)
  | .ifs t a b, env => M.bind (t.tst Φ C env) fun k => if k = true then a.ev env else b.ev env
  | .for_ it t b, env => M.bind (it.ev Φ C env) fun xs => forL (fun x env => M.bind (M.lift (t.bind x env)) fun env' => b.ev env') xs env
  | .while_ t b, env => whileL (fun env => t.tst Φ C env) (fun env => b.ev env) 100000 env
  | .raise c m, _ => fun s => .exc c (.str m) s
def Ss.ev : Ss → Env → M Fl
  | .nil, env => M.pure (.nx env)
  | .cons s ss, env => M.bind (s.ev env) fun r => match r with
    | .nx env' => ss.ev env'
    | .ret v => M.pure (.ret v)
end
def startE (ns : Nat) (xs : List D) : Env := xs.map Sl.v ++ List.replicate (ns - xs.length) Sl.un
def Fn.run (f : Fn) (xs : List D) : M D :=
  if xs.length = f.ps ∧ f.ps ≤ f.ns then M.bind (f.body.ev Φ C (startE f.ns xs)) fun r => match r with
    | .nx _ => M.pure non
    | .ret v => M.pure v
  else M.bad
/-- the whole table, n calls deep -/
def runT (C : Cons) (F : String → Option Fn) : Nat → Calls
  | 0, _, _ => M.bad
  | n + 1, f, xs => match F f with
    | some fn => fn.run (runT C F n) C xs
    | none => M.bad
end Fb

set_option Elab.async false
set_option linter.all false
set_option maxRecDepth 100000
/-! how values and stores stand in the hand layer's heaps -/
namespace Fb
open PySem PySem.Spec PyProof.Rows L2
open Classical

/-- where the store's objects stand; which addresses no datum may lean on -/
structure Wo where
  μ : List Addr
  B : Addr → Prop
noncomputable def hide (B : Addr → Prop) (H : Hp) : Hp := fun a => if B a then none else H a
theorem hide_some {B : Addr → Prop} {H : Hp} {a : Addr} {o : HO} : hide B H a = some o ↔ ¬ B a ∧ H a = some o := by
  unfold hide
  by_cases h : B a
  · simp [h]
  · simp [h]
theorem hide_sub {B : Addr → Prop} {H : Hp} : Same (hide B H) H := fun _ _ e => (hide_some.mp e).2

theorem seqL_mono {K : PySem.W.Frag} {H H' : Hp} {a : Addr} {xs : List V} (e : Same H H') (h : SqL K H a xs) : SqL K H' a xs := e.seq h
theorem seqT_mono {K : PySem.W.Frag} {H H' : Hp} {a : Addr} {xs : List V} (e : Same H H') (h : SqT K H a xs) : SqT K H' a xs := by
  rcases h with (h | ⟨o, h⟩) | h
  · exact .inl (.inl (e _ _ h))
  · exact .inl (.inr ⟨o, e _ _ h⟩)
  · exact .inr h
mutual
/-- a datum stands: its lists are all in H itself -/
inductive Dq (K : PySem.W.Frag) (H : Hp) : V → PyData → Prop
  | non : Dq K H .non .none
  | bl (b : Bool) : Dq K H (.bl b) (.bool b)
  | int (i : Int) : Dq K H (.int i) (.int i)
  | str (x : Str) : Dq K H (.str x) (.str x)
  | lst {a : Addr} {xs : List V} {ds : List PyData} : H a = some (.lst xs) → DqAll K H xs ds → Dq K H (.ref a) (.list ds)
  | tup {a : Addr} {xs : List V} {ds : List PyData} : SqT K H a xs → DqAll K H xs ds → Dq K H (.ref a) (.tuple ds)
inductive DqAll (K : PySem.W.Frag) (H : Hp) : List V → List PyData → Prop
  | nil : DqAll K H [] []
  | cons {v : V} {vs : List V} {d : PyData} {ds : List PyData} : Dq K H v d → DqAll K H vs ds → DqAll K H (v :: vs) (d :: ds)
end
mutual
theorem Dq.dp {K : PySem.W.Frag} {H H' : Hp} (e : Same H H') : ∀ {p : PyData} {v : V}, Dq K H v p → Dp K H' v p
  | .none, _, h => by cases h; exact .non
  | .bool b, _, h => by cases h; exact .bl b
  | .int i, _, h => by cases h; exact .int i
  | .str x, _, h => by cases h; exact .str x
  | .list ds, _, h => by
    cases h with
    | lst h1 h2 => exact .lst (.inl (.inl (e _ _ h1))) (DqAll.dp e h2)
  | .tuple ds, _, h => by
    cases h with
    | tup h1 h2 => exact .tup (seqT_mono e h1) (DqAll.dp e h2)
  | .dict _, _, h => by cases h
theorem DqAll.dp {K : PySem.W.Frag} {H H' : Hp} (e : Same H H') : ∀ {ds : List PyData} {vs : List V}, DqAll K H vs ds → DpAll K H' vs ds
  | [], _, h => by cases h; exact .nil
  | d :: ds, _, h => by
    cases h with
    | cons h1 h2 => exact .cons (Dq.dp e h1) (DqAll.dp e h2)
end
mutual
theorem dp_mono {K : PySem.W.Frag} {H H' : Hp} (e : Same H H') : ∀ {p : PyData} {v : V}, Dq K H v p → Dq K H' v p
  | .none, _, h => by cases h; exact .non
  | .bool b, _, h => by cases h; exact .bl b
  | .int i, _, h => by cases h; exact .int i
  | .str x, _, h => by cases h; exact .str x
  | .list ds, _, h => by
    cases h with
    | lst h1 h2 => exact .lst (e _ _ h1) (dpAll_mono e h2)
  | .tuple ds, _, h => by
    cases h with
    | tup h1 h2 => exact .tup (seqT_mono e h1) (dpAll_mono e h2)
  | .dict _, _, h => by cases h
theorem dpAll_mono {K : PySem.W.Frag} {H H' : Hp} (e : Same H H') : ∀ {ds : List PyData} {vs : List V}, DqAll K H vs ds → DqAll K H' vs ds
  | [], _, h => by cases h; exact .nil
  | d :: ds, _, h => by
    cases h with
    | cons h1 h2 => exact .cons (dp_mono e h1) (dpAll_mono e h2)
end
theorem DqAll.length {K : PySem.W.Frag} {H : Hp} : ∀ {ds : List PyData} {vs : List V}, DqAll K H vs ds → vs.length = ds.length
  | _, _, .nil => rfl
  | _, _, .cons _ t => congrArg (· + 1) (DqAll.length t)
theorem DqAll.append {K : PySem.W.Frag} {H : Hp} : ∀ {ds es : List PyData} {vs us : List V}, DqAll K H vs ds → DqAll K H us es → DqAll K H (vs ++ us) (ds ++ es)
  | _, _, _, _, .nil, h => h
  | _, _, _, _, .cons a t, h => .cons a (DqAll.append t h)
theorem DqAll.get {K : PySem.W.Frag} {H : Hp} : ∀ {ds : List PyData} {vs : List V} {i : Nat} {d : PyData}, DqAll K H vs ds → ds[i]? = some d → ∃ v, vs[i]? = some v ∧ Dq K H v d
  | _, _, _, _, .nil, e => by simp at e
  | _, _, 0, _, .cons a _, e => by simp at e; subst e; exact ⟨_, rfl, a⟩
  | _, _, i + 1, d, .cons _ t, e => by
    obtain ⟨v, h1, h2⟩ := DqAll.get (i := i) (d := d) t (by simpa using e)
    exact ⟨v, by simpa using h1, h2⟩
theorem DqAll.take {K : PySem.W.Frag} {H : Hp} : ∀ {ds : List PyData} {vs : List V} (n : Nat), DqAll K H vs ds → DqAll K H (vs.take n) (ds.take n)
  | _, _, 0, _ => .nil
  | _, _, _ + 1, .nil => .nil
  | _, _, n + 1, .cons a t => .cons a (DqAll.take n t)
theorem DqAll.drop {K : PySem.W.Frag} {H : Hp} : ∀ {ds : List PyData} {vs : List V} (n : Nat), DqAll K H vs ds → DqAll K H (vs.drop n) (ds.drop n)
  | _, _, 0, h => h
  | _, _, _ + 1, .nil => .nil
  | _, _, n + 1, .cons _ t => DqAll.drop n t
theorem DqAll.rep {K : PySem.W.Frag} {H : Hp} {ds : List PyData} {vs : List V} (h : DqAll K H vs ds) : ∀ n : Nat, DqAll K H (List.replicate n vs).flatten (List.replicate n ds).flatten
  | 0 => by simpa using DqAll.nil
  | n + 1 => by
    rw [List.replicate_succ, List.replicate_succ, List.flatten_cons, List.flatten_cons]
    exact DqAll.append h (DqAll.rep h n)
theorem DqAll.ints {K : PySem.W.Frag} {H : Hp} : ∀ {ds : List PyData} {vs : List V} {ns : List Int}, DqAll K H vs ds → intsOf ds = some ns → vs = ns.map V.int
  | _, _, ns, .nil, e => by cases e; rfl
  | d :: ds, _, ns, .cons a t, e => by
    cases d <;> simp [intsOf] at e
    obtain ⟨r, e1, e2⟩ := e
    subst e2
    cases a
    rw [DqAll.ints t e1]
    rfl
theorem DqAll.bools {K : PySem.W.Frag} {H : Hp} : ∀ {ds : List PyData} {vs : List V} {ns : List Bool}, DqAll K H vs ds → boolsOf ds = some ns → vs = ns.map V.bl
  | _, _, ns, .nil, e => by cases e; rfl
  | d :: ds, _, ns, .cons a t, e => by
    cases d <;> simp [boolsOf] at e
    obtain ⟨r, e1, e2⟩ := e
    subst e2
    cases a
    rw [DqAll.bools t e1]
    rfl

section
variable (K : PySem.W.Frag)
/-- how a value stands -/
def Rep (w : Wo) (H : Hp) : D → V → Prop
  | .d p, v => Dq K (hide w.B H) v p
  | .ref n, v => ∃ a, w.μ[n]? = some a ∧ v = .ref a
  | .scr ns, v => ∃ a, v = .ref a ∧ SqL K (hide w.B H) a (ns.map V.int)
def Reps (w : Wo) (H : Hp) : List D → List V → Prop
  | [], [] => True
  | x :: xs, v :: vs => Rep K w H x v ∧ Reps w H xs vs
  | _, _ => False
def ObRep (w : Wo) (H : Hp) (a : Addr) : Ob → Prop
  | .lst xs => ∃ vs, H a = some (.lst vs) ∧ Reps K w H xs vs
/-- the store stands -/
structure Wd (st : Sto) (w : Wo) (H : Hp) : Prop where
  nd : w.μ.Nodup
  len : w.μ.length = st.length
  sub : ∀ a ∈ w.μ, w.B a
  dom : ∀ a, w.B a → H a ≠ none
  obs : ∀ (n : Nat) (o : Ob), st[n]? = some o → ∃ a, w.μ[n]? = some a ∧ ObRep K w H a o
end
/-- what data leans on stays -/
structure HX (w : Wo) (H : Hp) (w' : Wo) (H' : Hp) : Prop where
  pre : w.μ <+: w'.μ
  hid : Same (hide w.B H) (hide w'.B H')
/-- what a run may do -/
structure Ext (w : Wo) (H : Hp) (w' : Wo) (H' : Hp) : Prop where
  mu : ∃ ν, w'.μ = w.μ ++ ν ∧ ∀ a ∈ ν, H a = none
  keep : ∀ a o, H a = some o → a ∉ w.μ → H' a = some o
  dom : ∀ a, H a ≠ none → H' a ≠ none
  up : ∀ a, w.B a → w'.B a
  new : ∀ a, w'.B a → w.B a ∨ H a = none
theorem HX.refl {w : Wo} {H : Hp} : HX w H w H := ⟨List.prefix_rfl, Same.refl _⟩
theorem HX.trans {w w1 w2 : Wo} {H H1 H2 : Hp} (a : HX w H w1 H1) (b : HX w1 H1 w2 H2) : HX w H w2 H2 := ⟨a.pre.trans b.pre, a.hid.trans b.hid⟩
theorem Ext.refl {w : Wo} {H : Hp} : Ext w H w H := ⟨⟨[], by simp, by simp⟩, fun _ _ e _ => e, fun _ h => h, fun _ h => h, fun _ h => .inl h⟩
theorem Ext.trans {w w1 w2 : Wo} {H H1 H2 : Hp} (a : Ext w H w1 H1) (b : Ext w1 H1 w2 H2) : Ext w H w2 H2 := by
  obtain ⟨ν, e1, f1⟩ := a.mu
  obtain ⟨ν2, e2, f2⟩ := b.mu
  have dn : ∀ x, H1 x = none → H x = none := fun x hx => by
    cases q : H x with
    | none => rfl
    | some o => exact absurd hx (a.dom x (by rw [q]; simp))
  refine ⟨⟨ν ++ ν2, by rw [e2, e1, List.append_assoc], fun x hx => ?_⟩, fun x o h hn => ?_, fun x h => b.dom x (a.dom x h), fun x h => b.up x (a.up x h), fun x h => ?_⟩
  · rcases List.mem_append.mp hx with h | h
    · exact f1 x h
    · exact dn x (f2 x h)
  · refine b.keep x o (a.keep x o h hn) ?_
    rw [e1]
    intro hm
    rcases List.mem_append.mp hm with q | q
    · exact hn q
    · rw [f1 x q] at h; cases h
  · rcases b.new x h with q | q
    · exact a.new x q
    · exact .inr (dn x q)
theorem Ext.hx {K : PySem.W.Frag} {st : Sto} {w w' : Wo} {H H' : Hp} (a : Ext w H w' H') (d : Wd K st w H) : HX w H w' H' := by
  obtain ⟨ν, e1, f1⟩ := a.mu
  refine ⟨⟨ν, e1.symm⟩, fun x o h => ?_⟩
  obtain ⟨h1, h2⟩ := hide_some.mp h
  refine hide_some.mpr ⟨fun hb => ?_, a.keep x o h2 fun hm => h1 (d.sub x hm)⟩
  rcases a.new x hb with q | q
  · exact h1 q
  · rw [q] at h2; cases h2
section
variable {K : PySem.W.Frag} {w w' : Wo} {H H' : Hp}
theorem rep_mono (e : HX w H w' H') : ∀ {x : D} {v : V}, Rep K w H x v → Rep K w' H' x v
  | .d p, _, h => dp_mono e.hid h
  | .ref n, _, ⟨a, h1, h2⟩ => ⟨a, by
      obtain ⟨t, e1⟩ := e.pre
      rw [← e1, List.getElem?_append_left (List.getElem?_eq_some_iff.mp h1).1]
      exact h1, h2⟩
  | .scr ns, _, ⟨a, h1, h2⟩ => ⟨a, h1, seqL_mono e.hid h2⟩
theorem reps_mono (e : HX w H w' H') : ∀ {xs : List D} {vs : List V}, Reps K w H xs vs → Reps K w' H' xs vs
  | [], [], _ => trivial
  | _ :: _, _ :: _, ⟨a, b⟩ => ⟨rep_mono e a, reps_mono e b⟩
  | [], _ :: _, h => h.elim
  | _ :: _, [], h => h.elim
theorem reps_len : ∀ {xs : List D} {vs : List V}, Reps K w H xs vs → vs.length = xs.length
  | [], [], _ => rfl
  | _ :: _, _ :: _, ⟨_, b⟩ => congrArg (· + 1) (reps_len b)
  | [], _ :: _, h => h.elim
  | _ :: _, [], h => h.elim
theorem reps_of : ∀ {ps : List PyData} {vs : List V}, DqAll K (hide w.B H) vs ps → Reps K w H (ps.map D.d) vs
  | _, _, .nil => trivial
  | _, _, .cons a t => ⟨a, reps_of t⟩
theorem dpAll_of : ∀ {xs : List D} {ps : List PyData} {vs : List V}, Reps K w H xs vs → datas xs = some ps → DqAll K (hide w.B H) vs ps
  | [], _, [], _, e => by cases e; exact .nil
  | .d p :: xs, ps, v :: vs, ⟨a, b⟩, e => by
    simp [datas] at e
    obtain ⟨r, e1, e2⟩ := e
    subst e2
    exact .cons a (dpAll_of b e1)
  | .ref _ :: _, _, _ :: _, _, e => by simp [datas] at e
  | .scr _ :: _, _, _ :: _, _, e => by simp [datas] at e
  | [], _, _ :: _, h, _ => h.elim
  | _ :: _, _, [], h, _ => h.elim
/-- a heap with more in it -/
theorem Ext.grown {st : Sto} (d : Wd K st w H) (k : Same H H') : Ext w H w H' ∧ Wd K st w H' := by
  have dm : ∀ a, H a ≠ none → H' a ≠ none := fun a h => by
    cases q : H a with
    | none => exact absurd q h
    | some o => rw [k a o q]; simp
  have hx : HX w H w H' := ⟨List.prefix_rfl, fun a o h => by
    obtain ⟨h1, h2⟩ := hide_some.mp h
    exact hide_some.mpr ⟨h1, k a o h2⟩⟩
  refine ⟨⟨⟨[], by simp, by simp⟩, fun a o h _ => k a o h, dm, fun _ h => h, fun _ h => .inl h⟩, ⟨d.nd, d.len, d.sub, fun a h => dm a (d.dom a h), fun n o h => ?_⟩⟩
  obtain ⟨a, h1, h2⟩ := d.obs n o h
  refine ⟨a, h1, ?_⟩
  cases o with
  | lst xs =>
    obtain ⟨vs, e, r⟩ := h2
    exact ⟨vs, k _ _ e, reps_mono hx r⟩
end

/-- how the names' places stand; w0, H0: the def's entry -/
structure EnvOk (K : PySem.W.Frag) (w0 : Wo) (H0 : Hp) (env : Env) (w : Wo) (σ : L2.St) (H : Hp) : Prop where
  ext : Ext w0 H0 w H
  len : env.length = σ.length
  val : ∀ (i : Nat) (x : D), env[i]? = some (.v x) → ∃ v, σ[i]? = some (some v) ∧ Rep K w H x v
  own : ∀ (i : Nat) (ps : List PyData), env[i]? = some (.own ps) → ∃ a vs, σ[i]? = some (some (.ref a)) ∧ w.B a ∧ a ∉ w.μ ∧ H0 a = none ∧ H a = some (.lst vs) ∧ DqAll K (hide w.B H) vs ps
  apart : ∀ (i j : Nat) (ps qs : List PyData) (a : Addr), env[i]? = some (.own ps) → env[j]? = some (.own qs) → σ[i]? = some (some (.ref a)) → σ[j]? = some (some (.ref a)) → i = j
theorem EnvOk.go {K : PySem.W.Frag} {w0 w w' : Wo} {H0 H H' : Hp} {env : Env} {σ : L2.St} {st : Sto} (h : EnvOk K w0 H0 env w σ H) (d : Wd K st w H) (e : Ext w H w' H') : EnvOk K w0 H0 env w' σ H' := by
  have hx := e.hx d
  refine ⟨h.ext.trans e, h.len, fun i x q => ?_, fun i ps q => ?_, h.apart⟩
  · obtain ⟨v, h1, h2⟩ := h.val i x q
    exact ⟨v, h1, rep_mono hx h2⟩
  · obtain ⟨a, vs, h1, h2, h3, h4, h5, h6⟩ := h.own i ps q
    refine ⟨a, vs, h1, e.up a h2, ?_, h4, e.keep a _ h5 h3, dpAll_mono hx.hid h6⟩
    obtain ⟨ν, e1, f1⟩ := e.mu
    rw [e1]
    intro hm
    rcases List.mem_append.mp hm with z | z
    · exact h3 z
    · rw [f1 a z] at h5; cases h5

/-- an exception's class, what it was made of, where it stands -/
abbrev XR := String → PyData → Value → Option Addr → Hp → Prop
section
variable (K : PySem.W.Frag) (X : XR) (E : XK)
/-- from a run's end to what is wanted -/
def outX {α : Type} (w : Wo) (H : Hp) (o : Out α) (k : α → Sto → Wo → Hp → Prop) : Prop := match o with
  | .ok a st' => ∀ w' H', Ext w H w' H' → Wd K st' w' H' → k a st' w' H'
  | .exc c p st' => ∀ w' H' cls dx, Ext w H w' H' → Wd K st' w' H' → X c p cls dx H' → E cls dx H'
  | .bad => False
end
section
variable {K : PySem.W.Frag} {X : XR} {E : XK} {α β : Type}
theorem outX_mono {w w1 : Wo} {H H1 : Hp} {o : Out α} {k : α → Sto → Wo → Hp → Prop} (e : Ext w H w1 H1) (h : outX K X E w H o k) : outX K X E w1 H1 o k := by
  cases o with
  | ok a st => exact fun w' H' e' d => h w' H' (e.trans e') d
  | exc c p st => exact fun w' H' cls dx e' d => h w' H' cls dx (e.trans e') d
  | bad => exact h
theorem outX_imp {w : Wo} {H : Hp} {o : Out α} {k k' : α → Sto → Wo → Hp → Prop} (h : outX K X E w H o k) (i : ∀ a st w' H', Ext w H w' H' → Wd K st w' H' → k a st w' H' → k' a st w' H') : outX K X E w H o k' := by
  cases o with
  | ok a st => exact fun w' H' e d => i a st w' H' e d (h w' H' e d)
  | exc c p st => exact h
  | bad => exact h
/-- first m, then f -/
theorem outX_bind {w : Wo} {H : Hp} {m : M α} {f : α → M β} {st : Sto} {k : β → Sto → Wo → Hp → Prop} (h : outX K X E w H (M.bind m f st) k) : outX K X E w H (m st) fun a st1 w1 H1 => outX K X E w1 H1 (f a st1) k := by
  unfold M.bind at h
  cases q : m st with
  | ok a st1 =>
    rw [q] at h
    exact fun w1 H1 e d => outX_mono e h
  | exc c p st1 =>
    rw [q] at h
    exact h
  | bad =>
    rw [q] at h
    exact h
theorem outX_lift {w : Wo} {H : Hp} {o : Option α} {st : Sto} {k : α → Sto → Wo → Hp → Prop} (h : outX K X E w H (M.lift o st) k) : ∃ a, o = some a ∧ outX K X E w H (M.pure a st) k := by
  cases o with
  | none => exact h.elim
  | some a => exact ⟨a, rfl, h⟩
theorem outX_need {w : Wo} {H : Hp} {x : D} {f : PyData → M β} {st : Sto} {k : β → Sto → Wo → Hp → Prop} (h : outX K X E w H (need x f st) k) : ∃ p, x = .d p ∧ outX K X E w H (f p st) k := by
  cases x with
  | d p => exact ⟨p, rfl, h⟩
  | ref n => exact h.elim
  | scr ns => exact h.elim
/-- at a plain end -/
theorem outX_now {w : Wo} {H : Hp} {a : α} {st : Sto} {k : α → Sto → Wo → Hp → Prop} (d : Wd K st w H) (h : outX K X E w H (M.pure a st) k) : k a st w H := h w H Ext.refl d
end

/-! ### the readings -/
section
variable (K : PySem.W.Frag) (X : XR) (w0 : Wo) (H0 : Hp) (E : XK)
def tE (m : Env → M D) : TE := fun σ H Q => ∃ (w : Wo) (st : Sto) (env : Env), EnvOk K w0 H0 env w σ H ∧ Wd K st w H ∧ outX K X E w H (m env st) fun x _ w' H' => ∀ v, Rep K w' H' x v → Q v H'
def tT (m : Env → M Bool) : TT := fun σ H Q => ∃ (w : Wo) (st : Sto) (env : Env), EnvOk K w0 H0 env w σ H ∧ Wd K st w H ∧ outX K X E w H (m env st) fun b _ _ H' => Q b H'
def tA (m : Env → M (List D)) : TA := fun σ H Q => ∃ (w : Wo) (st : Sto) (env : Env), EnvOk K w0 H0 env w σ H ∧ Wd K st w H ∧ outX K X E w H (m env st) fun xs _ w' H' => ∀ vs, Reps K w' H' xs vs → Q vs H'
def tO (m : Env → M (Option Int)) : TO := fun σ H Q => ∃ (w : Wo) (st : Sto) (env : Env), EnvOk K w0 H0 env w σ H ∧ Wd K st w H ∧ outX K X E w H (m env st) fun o _ _ H' => Q o H'
end
theorem PE.imp {Y : Cx} {e : Expr} {t t' : TE} (h : PE Y e t) (i : ∀ σ H Q, t' σ H Q → t σ H Q) : PE Y e t' := ⟨fun pins s σ H Q I q => h.run pins s σ H Q I (i σ H Q q)⟩
theorem PT.imp {Y : Cx} {e : Expr} {t t' : TT} (h : PT Y e t) (i : ∀ σ H Q, t' σ H Q → t σ H Q) : PT Y e t' := ⟨fun pins s σ H Q I q => h.run pins s σ H Q I (i σ H Q q)⟩
theorem PW.imp {Y : Cx} {e : Expr} {t t' : TT} (h : PW Y e t) (i : ∀ σ H Q, t' σ H Q → t σ H Q) : PW Y e t' := ⟨fun wh pins s σ H Q I q => h.run wh pins s σ H Q I (i σ H Q q)⟩
theorem PA.imp {Y : Cx} {e : List Expr} {t t' : TA} (h : PA Y e t) (i : ∀ σ H Q, t' σ H Q → t σ H Q) : PA Y e t' := ⟨fun pos pins s σ H Q I q => h.run pos pins s σ H Q I (i σ H Q q)⟩
theorem PO.imp {Y : Cx} {e : Option Expr} {t t' : TO} (h : PO Y e t) (i : ∀ σ H Q, t' σ H Q → t σ H Q) : PO Y e t' := ⟨fun pins s σ H Q I q => h.run pins s σ H Q I (i σ H Q q)⟩
section
variable {K : PySem.W.Frag} {X : XR} {w0 : Wo} {H0 : Hp} {E : XK} {w : Wo} {st : Sto} {env : Env} {σ : L2.St} {H : Hp} {β : Type}
/-- one step of a reading: the rest is asked behind it -/
theorem tE_go {m : Env → M D} {f : D → M β} {k : β → Sto → Wo → Hp → Prop} {R : VK} (hE : EnvOk K w0 H0 env w σ H) (hW : Wd K st w H) (h : outX K X E w H (M.bind (m env) f st) k)
    (g : ∀ x st1 w1 H1 v, Ext w H w1 H1 → EnvOk K w0 H0 env w1 σ H1 → Wd K st1 w1 H1 → Rep K w1 H1 x v → outX K X E w1 H1 (f x st1) k → R v H1) : tE K X w0 H0 E m σ H R :=
  ⟨w, st, env, hE, hW, outX_imp (outX_bind h) fun x st1 w1 H1 e d q v r => g x st1 w1 H1 v e (hE.go hW e) d r q⟩
theorem tT_go {m : Env → M Bool} {f : Bool → M β} {k : β → Sto → Wo → Hp → Prop} {R : Bool → Hp → Prop} (hE : EnvOk K w0 H0 env w σ H) (hW : Wd K st w H) (h : outX K X E w H (M.bind (m env) f st) k)
    (g : ∀ x st1 w1 H1, Ext w H w1 H1 → EnvOk K w0 H0 env w1 σ H1 → Wd K st1 w1 H1 → outX K X E w1 H1 (f x st1) k → R x H1) : tT K X w0 H0 E m σ H R :=
  ⟨w, st, env, hE, hW, outX_imp (outX_bind h) fun x st1 w1 H1 e d q => g x st1 w1 H1 e (hE.go hW e) d q⟩
theorem tA_go {m : Env → M (List D)} {f : List D → M β} {k : β → Sto → Wo → Hp → Prop} {R : List V → Hp → Prop} (hE : EnvOk K w0 H0 env w σ H) (hW : Wd K st w H) (h : outX K X E w H (M.bind (m env) f st) k)
    (g : ∀ xs st1 w1 H1 vs, Ext w H w1 H1 → EnvOk K w0 H0 env w1 σ H1 → Wd K st1 w1 H1 → Reps K w1 H1 xs vs → outX K X E w1 H1 (f xs st1) k → R vs H1) : tA K X w0 H0 E m σ H R :=
  ⟨w, st, env, hE, hW, outX_imp (outX_bind h) fun x st1 w1 H1 e d q v r => g x st1 w1 H1 v e (hE.go hW e) d r q⟩
theorem tO_go {m : Env → M (Option Int)} {f : Option Int → M β} {k : β → Sto → Wo → Hp → Prop} {R : Option Int → Hp → Prop} (hE : EnvOk K w0 H0 env w σ H) (hW : Wd K st w H) (h : outX K X E w H (M.bind (m env) f st) k)
    (g : ∀ x st1 w1 H1, Ext w H w1 H1 → EnvOk K w0 H0 env w1 σ H1 → Wd K st1 w1 H1 → outX K X E w1 H1 (f x st1) k → R x H1) : tO K X w0 H0 E m σ H R :=
  ⟨w, st, env, hE, hW, outX_imp (outX_bind h) fun x st1 w1 H1 e d q => g x st1 w1 H1 e (hE.go hW e) d q⟩
end

/-! ### laying data into a heap -/
/-- what an operation on data leaves: the datum r stands at v, nothing is changed -/
def Gives (K : PySem.W.Frag) (B : Addr → Prop) (H : Hp) (r : PyData) (Q : VK) : Prop := ∀ v H', Same H H' → Dq K (hide B H') v r → Q v H'
theorem same_new {H : Hp} {p : Addr} {o : HO} (h : H p = none) : Same H (upd H p o) := fun b x e => by
  rw [upd_ne (ne_of_none e h)]
  exact e
section
variable {K : PySem.W.Frag} {B : Addr → Prop} {H : Hp} {Q : VK}
theorem hide_same {H H' : Hp} (k : Same H H') : Same (hide B H) (hide B H') := fun a o h => by
  obtain ⟨h1, h2⟩ := hide_some.mp h
  exact hide_some.mpr ⟨h1, k a o h2⟩
/-- a new tuple, a new list -/
theorem gives_tup {ds : List PyData} {vs : List V} {p : Addr} (dom : ∀ a, B a → H a ≠ none) (g : Gives K B H (.tuple ds) Q) (h : DqAll K (hide B H) vs ds) (hp : H p = none) : Q (.ref p) (upd H p (.tup vs)) := by
  have nb : ¬ B p := fun hb => dom p hb hp
  refine g _ _ (same_new hp) (.tup (.inl (.inl (hide_some.mpr ⟨nb, upd_same⟩))) (dpAll_mono (hide_same (same_new hp)) h))
theorem gives_lst {ds : List PyData} {vs : List V} {p : Addr} (dom : ∀ a, B a → H a ≠ none) (g : Gives K B H (.list ds) Q) (h : DqAll K (hide B H) vs ds) (hp : H p = none) : Q (.ref p) (upd H p (.lst vs)) := by
  have nb : ¬ B p := fun hb => dom p hb hp
  refine g _ _ (same_new hp) (.lst (hide_some.mpr ⟨nb, upd_same⟩) (dpAll_mono (hide_same (same_new hp)) h))
theorem gives_now {r : PyData} {v : V} (g : Gives K B H r Q) (h : Dq K (hide B H) v r) : Q v H := g v H (Same.refl H) h
/-- two data in, one out -/
def rD (K : PySem.W.Frag) (g : PyData → PyData → Option PyData) : R2 := fun x y H Q => ∃ (B : Addr → Prop) (p q r : PyData), (∀ a, B a → H a ≠ none) ∧ Dq K (hide B H) x p ∧ Dq K (hide B H) y q ∧ g p q = some r ∧ Gives K B H r Q
end
/-- at the end of an operation in a reading -/
theorem outX_gives {K : PySem.W.Frag} {X : XR} {E : XK} {w : Wo} {H : Hp} {r : PyData} {st : Sto} {Q : VK} (d : Wd K st w H) (h : outX K X E w H (M.pure (D.d r) st) fun x _ w' H' => ∀ v, Rep K w' H' x v → Q v H') : Gives K w.B H r Q := fun v H' k q => by
  obtain ⟨e, d'⟩ := Ext.grown (H' := H') d k
  exact h w H' e d' v q
end Fb

set_option Elab.async false
set_option linter.all false
set_option maxRecDepth 100000
set_option maxHeartbeats 1000000
/-! each operation of the small language does in the model what it says -/
namespace Fb
open PySem PySem.Spec PyProof.Rows L2

theorem fits_le {n : Nat} (h : fitsLine n = true) : n ≤ sizeLine := by
  rw [sizeLine_eq]
  exact of_decide_eq_true h
/-- room for what a def may ask within -/
structure Roomy (A : Around) : Prop where
  units : A.units + 70 < cLine
  guards : A.guards = some []
section
variable {Y : Cx}
theorem rdLst {pins : List (Addr × Obj)} {σ : L2.St} {H : Hp} {s : Shared} {a : Addr} {xs : List V} (I : Inv Y pins σ H s) (h : H a = some (.lst xs)) :
    xs.length ≤ sizeLine ∧ ∃ (its : List Value) (n : Nat), Vals xs its ∧ xs.length = its.length ∧ s.heap.get? a = some { cls := .type "list", data := .seq its.toArray n } := I.lstM h
def Bo.ast : Bo → Operator
  | .add => .Add
  | .sub => .Sub
  | .mul => .Mult
  | .fdiv => .FloorDiv
  | .mod => .Mod
  | .pow => .Pow
theorem rep0 {α : Type} (n : Nat) : (List.replicate n ([] : List α)).flatten = [] := by
  induction n with
  | zero => rfl
  | succ n ih => rw [List.replicate_succ, List.flatten_cons, ih]; rfl
/-- tuple * int, of whatever sizes -/
theorem op_repAny {K : PySem.W.Frag} (hK : K = Y.K) : OpR Y (binaryOp .Mult) (fun x y H Q => ∃ l k xs, x = .ref l ∧ y = .int k ∧ SqT K H l xs ∧ 2 ≤ k ∧ k ≤ 1000 ∧ xs.length ≤ 1000 ∧ xs ≠ [] ∧ ∀ p, H p = none → Q (.ref p) (upd H p (.tup (List.replicate k.toNat xs).flatten))) := by
  subst hK
  intro pins s σ H x y v u Q I rx ry h
  obtain ⟨l, k, xs, rfl, rfl, hT, h1, h2, hz, hne, q⟩ := h
  exact op_repT pins s σ H _ _ v u Q I rx ry ⟨l, k, xs, rfl, rfl, hT, hne, h1, h2, hz, q⟩
theorem bo_ok (o : Bo) : OpR Y (binaryOp o.ast) (rD Y.K o.run) := by
  intro pins s σ H x y v u Q I rx ry h
  obtain ⟨B, p, q, r, dom, hx, hy, e, g⟩ := h
  unfold Bo.run at e
  split at e
  · cases e; cases hx; cases hy
    exact op_add pins s σ H _ _ v u Q I rx ry ⟨_, _, rfl, rfl, gives_now g (.int _)⟩
  · split at e
    · rename_i hz
      cases e; cases hx; cases hy
      exact op_add_str pins s σ H _ _ v u Q I rx ry ⟨_, _, rfl, rfl, fits_le hz, gives_now g (.str _)⟩
    · cases e
  · split at e
    · rename_i hz
      cases e
      cases hx with
      | tup h1 h2 =>
        cases hy with
        | tup h3 h4 =>
          have l1 := h2.length
          have l2 := h4.length
          refine op_catA pins s σ H _ _ v u Q I rx ry ⟨_, _, _, _, rfl, rfl, seqT_mono hide_sub h1, seqT_mono hide_sub h3, ?_, fun e1 => ?_, fun _ e2 => ?_, fun _ _ a ha => ?_⟩
          · rw [l1, l2]; exact fits_le hz
          · subst e1
            cases h2
            exact gives_now g (.tup h3 h4)
          · subst e2
            cases h4
            rw [List.append_nil] at g
            exact gives_now g (.tup h1 h2)
          · exact gives_tup dom g (h2.append h4) ha
    · cases e
  · split at e
    · rename_i hz
      cases e
      cases hx with
      | lst h1 h2 =>
        cases hy with
        | lst h3 h4 =>
          have l1 := h2.length
          have l2 := h4.length
          exact op_cat pins s σ H _ _ v u Q I rx ry ⟨_, _, _, _, rfl, rfl, hide_sub _ _ h1, hide_sub _ _ h3, by rw [l1, l2]; exact fits_le hz, fun a ha => gives_lst dom g (h2.append h4) ha⟩
    · cases e
  · cases e; cases hx; cases hy
    exact op_sub pins s σ H _ _ v u Q I rx ry ⟨_, _, rfl, rfl, gives_now g (.int _)⟩
  · split at e
    · rename_i hz
      cases e; cases hx; cases hy
      refine op_mul pins s σ H _ _ v u Q I rx ry ⟨_, _, rfl, rfl, ?_, gives_now g (.int _)⟩
      unfold fits64 at hz
      simp only [Bool.or_eq_true, Bool.and_eq_true, decide_eq_true_eq] at hz
      exact hz
    · cases e
  · split at e
    · rename_i hz
      cases e
      cases hx with
      | tup h1 h2 =>
        cases hy
        have l1 := h2.length
        obtain ⟨z1, z2, z3, z4⟩ := hz
        exact op_repAny rfl pins s σ H _ _ v u Q I rx ry ⟨_, _, _, rfl, rfl, seqT_mono hide_sub h1, z1, z2, by rw [l1]; exact z3, fun e0 => z4 (by
          subst e0
          cases h2
          rfl), fun a ha => gives_tup dom g (h2.rep _) ha⟩
    · cases e
  · split at e
    · rename_i hz
      cases e
      cases hx with
      | lst h1 h2 =>
        cases hy
        have l1 := h2.length
        obtain ⟨z1, z2, z3⟩ := hz
        refine op_rep pins s σ H _ _ v u Q I rx ry ⟨_, _, _, rfl, rfl, hide_sub _ _ h1, by omega, by omega, ?_, fun a ha => gives_lst dom g (h2.rep _) ha⟩
        rw [l1, sizeLine_eq]
        exact Nat.le_trans (Nat.mul_le_mul z3 (by omega : _ ≤ 1000)) (by decide)
    · cases e
  · split at e
    · rename_i hz
      cases e; cases hx; cases hy
      exact op_fdiv pins s σ H _ _ v u Q I rx ry ⟨_, _, rfl, rfl, hz, gives_now g (.int _)⟩
    · cases e
  · split at e
    · rename_i hz
      cases e; cases hx; cases hy
      exact op_mod pins s σ H _ _ v u Q I rx ry ⟨_, _, rfl, rfl, hz, gives_now g (.int _)⟩
    · cases e
  · split at e
    · rename_i hz
      cases e; cases hx; cases hy
      exact op_pow pins s σ H _ _ v u Q I rx ry ⟨_, _, rfl, rfl, hz, gives_now g (.int _)⟩
    · cases e
  · cases e

/-! ### comparisons -/
def Cm.ast : Cm → CmpOp
  | .eq => .Eq
  | .ne => .NotEq
  | .lt => .Lt
  | .le => .LtE
  | .gt => .Gt
  | .ge => .GtE
  | .is => .Is
  | .isnot => .IsNot
  | .in_ => .In
  | .notin => .NotIn
theorem eqP_ok (hu : Roomy Y.A) {pins : List (Addr × Obj)} {s : Shared} {σ : L2.St} {H : Hp} {x y : V} {v u : Value} {Q : VK} {B : Addr → Prop} {p q : PyData} {b : Bool} (I : Inv Y pins σ H s) (rx : RelV x v) (ry : RelV y u)
    (hx : Dq Y.K (hide B H) x p) (hy : Dq Y.K (hide B H) y q) (e : eqP p q = some b) (g : Q (.bl b) H) : wpAny (model Y.prog Y.w) Y.A (compareOp .Eq v u) (EP Y pins σ Q) Y.xe s := by
  have hu2 := hu.units
  unfold eqP at e
  split at e
  · cases e; cases hx; cases hy
    exact op_eq pins s σ H _ _ v u Q I rx ry ⟨rfl, by rw [show decide (V.int _ = V.int _) = _ from decide_eq_decide.mpr ⟨fun z => V.int.inj z, fun z => congrArg V.int z⟩]; exact g⟩
  · cases e; cases hx; cases hy
    refine op_eq pins s σ H _ _ v u Q I rx ry ⟨rfl, ?_⟩
    rw [show decide (V.bl _ = V.bl _) = _ from decide_eq_decide.mpr ⟨fun z => V.bl.inj z, fun z => congrArg V.bl z⟩]
    exact g
  · cases e; cases hx; cases hy
    refine op_eq pins s σ H _ _ v u Q I rx ry ⟨rfl, ?_⟩
    rw [show decide (V.str _ = V.str _) = _ from decide_eq_decide.mpr ⟨fun z => V.str.inj z, fun z => congrArg V.str z⟩]
    exact g
  · split at e
    · rename_i hz
      cases e
      obtain ⟨z1, z2⟩ := Bool.and_eq_true_iff.mp hz
      exact op_eqD (by omega) pins s σ H _ _ v u Q I rx ry ⟨_, _, hx.dp hide_sub, hy.dp hide_sub, z1, z2, g⟩
    · cases e
theorem neP_ok (hu : Roomy Y.A) {pins : List (Addr × Obj)} {s : Shared} {σ : L2.St} {H : Hp} {x y : V} {v u : Value} {Q : VK} {B : Addr → Prop} {p q : PyData} {b : Bool} (I : Inv Y pins σ H s) (rx : RelV x v) (ry : RelV y u)
    (hx : Dq Y.K (hide B H) x p) (hy : Dq Y.K (hide B H) y q) (e : eqP p q = some b) (g : Q (.bl (!b)) H) : wpAny (model Y.prog Y.w) Y.A (compareOp .NotEq v u) (EP Y pins σ Q) Y.xe s := by
  have hu2 := hu.units
  unfold eqP at e
  split at e
  · cases e; cases hx; cases hy
    exact op_ne pins s σ H _ _ v u Q I rx ry ⟨rfl, by rw [show decide (V.int _ = V.int _) = _ from decide_eq_decide.mpr ⟨fun z => V.int.inj z, fun z => congrArg V.int z⟩]; exact g⟩
  · cases e; cases hx; cases hy
    refine op_ne pins s σ H _ _ v u Q I rx ry ⟨rfl, ?_⟩
    rw [show decide (V.bl _ = V.bl _) = _ from decide_eq_decide.mpr ⟨fun z => V.bl.inj z, fun z => congrArg V.bl z⟩]
    exact g
  · cases e; cases hx; cases hy
    refine op_ne pins s σ H _ _ v u Q I rx ry ⟨rfl, ?_⟩
    rw [show decide (V.str _ = V.str _) = _ from decide_eq_decide.mpr ⟨fun z => V.str.inj z, fun z => congrArg V.str z⟩]
    exact g
  · split at e
    · rename_i hz
      cases e
      obtain ⟨z1, z2⟩ := Bool.and_eq_true_iff.mp hz
      exact op_neD (by omega) pins s σ H _ _ v u Q I rx ry ⟨_, _, hx.dp hide_sub, hy.dp hide_sub, z1, z2, g⟩
    · cases e
theorem isN_of {K : PySem.W.Frag} {H : Hp} {x : V} {p : PyData} (h : Dq K H x p) : decide (x = .non) = (match p with | .none => true | _ => false) := by
  cases h <;> rfl
theorem cm_ok (hu : Roomy Y.A) (c : Cm) : OpR Y (compareOp c.ast) (rD Y.K fun p q => (c.run p q).map PyData.bool) := by
  intro pins s σ H x y v u Q I rx ry h
  obtain ⟨B, p, q, r, dom, hx, hy, e, g⟩ := h
  have hu2 := hu.units
  obtain ⟨b, e9, er⟩ := Option.map_eq_some_iff.mp (show (c.run p q).map PyData.bool = some r from e)
  subst er
  clear e
  have e := e9
  clear e9
  have now : Q (.bl b) H := gives_now g (.bl b)
  unfold Cm.run at e
  split at e
  · exact eqP_ok hu I rx ry hx hy e now
  · obtain ⟨b', e', eb⟩ := Option.map_eq_some_iff.mp e
    subst eb
    exact neP_ok hu I rx ry hx hy e' now
  · cases e; cases hx; cases hy
    exact op_lt pins s σ H _ _ v u Q I rx ry ⟨_, _, rfl, rfl, now⟩
  · cases e; cases hx; cases hy
    exact op_le pins s σ H _ _ v u Q I rx ry ⟨_, _, rfl, rfl, now⟩
  · cases e; cases hx; cases hy
    exact op_gt pins s σ H _ _ v u Q I rx ry ⟨_, _, rfl, rfl, now⟩
  · cases e; cases hx; cases hy
    exact op_ge pins s σ H _ _ v u Q I rx ry ⟨_, _, rfl, rfl, now⟩
  · cases e; cases hy
    refine op_isN pins s σ H _ _ v u Q I rx ry ⟨rfl, ?_⟩
    rw [isN_of hx]
    cases hx <;> exact now
  · cases e; cases hy
    refine op_notN pins s σ H _ _ v u Q I rx ry ⟨rfl, ?_⟩
    rw [isN_of hx]
    cases hx <;> exact now
  · split at e
    · rename_i hz
      cases e
      obtain ⟨z1, z2⟩ := Bool.and_eq_true_iff.mp hz
      exact op_inD (by omega) pins s σ H _ _ v u Q I rx ry ⟨_, _, hx.dp hide_sub, hy.dp hide_sub, z1, z2, now⟩
    · cases e
  · split at e
    · rename_i hz
      cases e
      obtain ⟨z1, z2⟩ := Bool.and_eq_true_iff.mp hz
      exact op_notInD (by omega) pins s σ H _ _ v u Q I rx ry ⟨_, _, hx.dp hide_sub, hy.dp hide_sub, z1, z2, now⟩
    · cases e
  · split at e
    · rename_i hz
      cases e
      obtain ⟨z1, z2⟩ := Bool.and_eq_true_iff.mp hz
      obtain ⟨as, r1⟩ := Dp.reads I _ x v (hx.dp hide_sub) rx
      obtain ⟨bs, r2⟩ := Dp.reads I _ y u (hy.dp hide_sub) ry
      have d1 := SeqAt.depth_of_shaped z1
      have c1 := SeqAt.canLay_of_shaped z1
      have c2 := SeqAt.canLay_of_shaped z2
      refine SeqAt.in_tuple_reads r2 r1 (by simpa only [PyData.canLay0] using c2) c1 (by omega) ⟨.bl _, H, I, rfl, now⟩
    · cases e
  · split at e
    · rename_i hz
      cases e
      obtain ⟨z1, z2⟩ := Bool.and_eq_true_iff.mp hz
      obtain ⟨as, r1⟩ := Dp.reads I _ x v (hx.dp hide_sub) rx
      obtain ⟨bs, r2⟩ := Dp.reads I _ y u (hy.dp hide_sub) ry
      have d1 := SeqAt.depth_of_shaped z1
      have c1 := SeqAt.canLay_of_shaped z1
      have c2 := SeqAt.canLay_of_shaped z2
      refine SeqAt.notIn_tuple_reads r2 r1 (by simpa only [PyData.canLay0] using c2) c1 (by omega) ⟨.bl _, H, I, rfl, now⟩
    · cases e
  · cases e

/-! ### items, slices -/
theorem atI_dq {K : PySem.W.Frag} {H : Hp} {ds : List PyData} {vs : List V} {i : Int} {d : PyData} (h : DqAll K H vs ds) (e : atI ds i = some d) : ∃ v, atI vs i = some v ∧ Dq K H v d := by
  unfold atI at e ⊢
  rw [h.length]
  obtain ⟨j, e1, e2⟩ := Option.bind_eq_some_iff.mp e
  obtain ⟨v, h1, h2⟩ := h.get e2
  exact ⟨v, by rw [e1]; exact h1, h2⟩
theorem ix_ok : IxR Y (rD Y.K fun p q => match q with
    | .int k => ixP p k
    | _ => none) := by
  intro value slice pins s σ H x y v u Q I rx ry h hs
  obtain ⟨B, p, q, r, dom, hx, hy, e, g⟩ := h
  cases hy with
  | int k =>
    simp only at e
    unfold ixP at e
    split at e
    · cases hx with
      | tup h1 h2 =>
        obtain ⟨z, e1, e2⟩ := atI_dq h2 e
        exact ix_tup value slice pins s σ H _ _ v u Q I rx ry ⟨_, _, k, z, rfl, rfl, seqT_mono hide_sub h1, e1, gives_now g e2⟩ hs
    · cases hx with
      | lst h1 h2 =>
        obtain ⟨z, e1, e2⟩ := atI_dq h2 e
        exact ix_list value slice pins s σ H _ _ v u Q I rx ry ⟨_, _, k, z, rfl, rfl, .inl (.inl (hide_sub _ _ h1)), e1, gives_now g e2⟩ hs
    · cases e
  | _ => simp at e
def rCut (K : PySem.W.Frag) : V → Option Int → Option Int → Hp → VK → Prop := fun x lo hi H Q => ∃ (B : Addr → Prop) (p r : PyData), (∀ a, B a → H a ≠ none) ∧ Dq K (hide B H) x p ∧ cutP p lo hi = some r ∧ Gives K B H r Q
theorem cut_whole {α : Type} {xs : List α} {lo hi : Option Int} (h : HT.sIx xs.length 0 lo = 0 ∧ HT.sIx xs.length xs.length hi = xs.length) : (xs.drop (HT.sIx xs.length 0 lo)).take (HT.sIx xs.length xs.length hi - HT.sIx xs.length 0 lo) = xs := by
  rw [h.1, h.2]
  simp
theorem cut_ok : SlR Y (rCut Y.K) := by
  intro pins s σ H x v vl vu lo hi sl Q I rx hs pl pu h
  obtain ⟨B, p, r, dom, hx, e, g⟩ := h
  unfold cutP at e
  split at e
  · cases e
    cases hx with
    | tup h1 h2 =>
      refine sl_tupA pins s σ H _ v vl vu lo hi sl Q I rx hs pl pu ⟨_, _, rfl, seqT_mono hide_sub h1, fun hw => ?_, fun hw a ha => ?_⟩
      · have hw' := hw
        rw [h2.length] at hw'
        rw [cut_whole hw'] at g
        exact gives_now g (.tup h1 h2)
      · refine gives_tup dom g ?_ ha
        unfold cutV
        rw [h2.length]
        exact (h2.drop _).take _
  · cases e
    cases hx with
    | lst h1 h2 =>
      refine sl_list pins s σ H _ v vl vu lo hi sl Q I rx hs pl pu ⟨_, _, rfl, .inl (.inl (hide_sub _ _ h1)), fun a ha => ?_⟩
      refine gives_lst dom g ?_ ha
      unfold cutV
      rw [h2.length]
      exact (h2.drop _).take _
  · cases e
end

/-! ### built-in functions -/
def Bl.name : Bl → String
  | .len => "len"
  | .tuple => "tuple"
  | .list => "list"
  | .sum => "sum"
  | .all => "all"
  | .any => "any"
  | .abs => "abs"
  | .max2 => "max"
  | .min2 => "min"
  | .maxL => "max"
  | .minL => "min"
  | .repr => "repr"
  | .int => "int"
def Bl.isTy : Bl → Bool
  | .tuple => true
  | .list => true
  | .int => true
  | _ => false
def Bl.val (f : Bl) : Value := if f.isTy then .type f.name else .builtin f.name
theorem dq1 {K : PySem.W.Frag} {H : Hp} {p : PyData} {vs : List V} (h : DqAll K H vs [p]) : ∃ v, vs = [v] ∧ Dq K H v p := by
  cases h with
  | cons a t => cases t; exact ⟨_, rfl, a⟩
theorem dq2 {K : PySem.W.Frag} {H : Hp} {p q : PyData} {vs : List V} (h : DqAll K H vs [p, q]) : ∃ v u, vs = [v, u] ∧ Dq K H v p ∧ Dq K H u q := by
  cases h with
  | cons a t =>
    cases t with
    | cons b t => cases t; exact ⟨_, _, rfl, a, b⟩
theorem preSum_at (ns : List Int) : ∀ k, k ≤ ns.length → preSum (fun i => ns.getD i 0) k = (ns.take k).sum
  | 0, _ => by simp [preSum]
  | k + 1, h => by
    rw [preSum, preSum_at ns k (by omega), List.take_add_one, List.getElem?_eq_getElem (by omega), List.sum_append]
    simp [List.getD, List.getElem?_eq_getElem (show k < ns.length by omega)]
theorem sum_tuple {prog : Program} {w : World} {A : Around} {E : Value → Shared → Prop} {s : Shared} {l : Addr} {its : List Value} {ns : List Int} {Q : Value → Shared → Prop} (hh : A.handled = none) (hl : s.heap.IsTuple l its.toArray) (hi : IntsAre its ns)
    (h : ∀ h' tk t', (∀ b o, s.heap.get? b = some o → h'.get? b = some o) → Q (.int ns.sum t') { s with heap := h', toks := tk }) : wpAny (model prog w) A (call (.builtin "sum") [.ref l]) Q E s := by
  have hlen := hi.length
  refine call_sum_walkAnyS (PySem.W.iter_tupleW (A := A.in1) hh hl fun s₂ e W st hfp hw hk => ?_)
  refine ⟨_, _, _, _, _, _, _, fun i => ns.getD i 0, rfl, W, st, hfp, fun i v hv => ?_, fun s' t' m => ?_⟩
  · obtain ⟨u, h1, t, h2⟩ : ∃ u, its[i]? = some u ∧ ∃ t, u = .int (ns.getD i 0) t := by
      have hv' : its[i]? = some v := by simpa using hv
      obtain ⟨hlt, _⟩ := List.getElem?_eq_some_iff.mp hv'
      have r := vals_of_ints hi
      obtain ⟨n, hn⟩ : ∃ n, ns[i]? = some n := ⟨_, List.getElem?_eq_getElem (by omega)⟩
      obtain ⟨u, e1, t, e2⟩ := r.get (i := i) (x := V.int n) (by rw [List.getElem?_map, hn]; rfl)
      exact ⟨u, e1, t, by rw [e2]; simp [List.getD, hn]⟩
    have hv' : its[i]? = some v := by simpa using hv
    rw [h1] at hv'
    cases hv'
    exact ⟨t, h2⟩
  · obtain ⟨h', tk, rfl, hk'⟩ := PySem.W.moved_old e rfl m
    have e1 : its.toArray.size = ns.length := by rw [List.size_toArray]; exact hlen
    rw [e1, preSum_at ns _ (Nat.le_refl _), List.take_length]
    exact h h' tk t' hk'
section
variable {Y : Cx}
theorem maxI_eq {n m : Int} {ns : List Int} (h1 : m ∈ n :: ns) (h2 : ∀ y, y ∈ n :: ns → y ≤ m) : m = maxI n ns := by
  have hi : ∀ (ns : List Int) (n : Int), (∀ y, y ∈ n :: ns → y ≤ maxI n ns) ∧ maxI n ns ∈ n :: ns := by
    intro ns
    induction ns with
    | nil => intro n; exact ⟨fun y hy => by simp at hy; subst hy; exact Int.le_refl _, by simp [maxI]⟩
    | cons a r ih =>
      intro n
      have q := ih (max n a)
      have e : maxI n (a :: r) = maxI (max n a) r := rfl
      rw [e]
      refine ⟨fun y hy => ?_, ?_⟩
      · have b := q.1 (max n a) (by simp)
        rcases List.mem_cons.mp hy with rfl | hy
        · omega
        · rcases List.mem_cons.mp hy with rfl | hy
          · omega
          · exact q.1 y (List.mem_cons_of_mem _ hy)
      · rcases List.mem_cons.mp q.2 with z | z
        · rw [z]
          by_cases c : n ≤ a
          · rw [Int.max_eq_right c]; simp
          · rw [Int.max_eq_left (by omega)]; simp
        · exact List.mem_cons_of_mem _ (List.mem_cons_of_mem _ z)
  exact Int.le_antisymm ((hi ns n).1 m h1) (h2 _ (hi ns n).2)
theorem minI_eq {n m : Int} {ns : List Int} (h1 : m ∈ n :: ns) (h2 : ∀ y, y ∈ n :: ns → m ≤ y) : m = minI n ns := by
  have hi : ∀ (ns : List Int) (n : Int), (∀ y, y ∈ n :: ns → minI n ns ≤ y) ∧ minI n ns ∈ n :: ns := by
    intro ns
    induction ns with
    | nil => intro n; exact ⟨fun y hy => by simp at hy; subst hy; exact Int.le_refl _, by simp [minI]⟩
    | cons a r ih =>
      intro n
      have q := ih (min n a)
      have e : minI n (a :: r) = minI (min n a) r := rfl
      rw [e]
      refine ⟨fun y hy => ?_, ?_⟩
      · have b := q.1 (min n a) (by simp)
        rcases List.mem_cons.mp hy with rfl | hy
        · omega
        · rcases List.mem_cons.mp hy with rfl | hy
          · omega
          · exact q.1 y (List.mem_cons_of_mem _ hy)
      · rcases List.mem_cons.mp q.2 with z | z
        · rw [z]
          by_cases c : n ≤ a
          · rw [Int.min_eq_left c]; simp
          · rw [Int.min_eq_right (by omega)]; simp
        · exact List.mem_cons_of_mem _ (List.mem_cons_of_mem _ z)
  exact Int.le_antisymm (h2 _ (hi ns n).2) ((hi ns n).1 m h1)
/-- data in, a datum out -/
def rB (K : PySem.W.Frag) (g : List PyData → Option PyData) : List V → Hp → VK → Prop := fun vs H Q => ∃ (B : Addr → Prop) (ps : List PyData) (r : PyData), (∀ a, B a → H a ≠ none) ∧ DqAll K (hide B H) vs ps ∧ g ps = some r ∧ Gives K B H r Q
theorem repr_ok (hu : Roomy Y.A) {pins : List (Addr × Obj)} {s : Shared} {σ : L2.St} {H : Hp} {x : V} {u : Value} {Q : VK} {p : PyData} (I : Inv Y pins σ H s) (rx : RelV x u) (hx : Dp Y.K H x p) (h1 : p.showable = true) (h2 : p.hasDict = false) (h3 : p.shown.length ≤ sizeLine) (h4 : p.depth ≤ 64)
    (q : Q (.str p.shown) H) : wpAny (model Y.prog Y.w) Y.A (call (.builtin "repr") [u]) (EP Y pins σ Q) Y.xe s := by
  have hu2 := hu.units
  have deep : ∀ a, u = .ref a → wpAny (model Y.prog Y.w) Y.A (call (.builtin "repr") [u]) (EP Y pins σ Q) Y.xe s := fun a e => by
    subst e
    obtain ⟨as, r⟩ := Dp.reads I p x _ hx rx
    refine PySem.repr_of_reads' (h₀ := s.heap) r h1 (fun z => by rw [h2] at z; cases z) hu.guards (by omega) (fun _ _ z => z) (fun h' u' tk hk => ?_) h3
    exact ⟨.str p.shown, H, I.kept (t' := tk) hk, ⟨_, rfl⟩, q⟩
  cases hx with
  | non =>
    cases rx
    rw [PyData.shown_none] at q
    exact PySem.P.repr_of_none ⟨.str _, H, I.tok _, ⟨_, rfl⟩, q⟩
  | bl b =>
    cases rx
    rw [PyData.shown_bool] at q
    exact PySem.P.repr_of_bool ⟨.str _, H, I.tok _, ⟨_, rfl⟩, q⟩
  | int i =>
    obtain ⟨t, rfl⟩ := rx
    rw [PyData.shown_int] at q
    exact PySem.P.repr_of_int (by simpa [PyData.showable] using h1) ⟨.str _, H, I.tok _, ⟨_, rfl⟩, q⟩
  | str y =>
    obtain ⟨t, rfl⟩ := rx
    have e : (PyData.str y).shown = reprText y := by simp only [PyData.shown]
    rw [e] at q h3
    exact PySem.P.repr_of_str ⟨.str _, H, I.tok _, ⟨_, rfl⟩, q⟩ h3
  | lst _ _ => exact deep _ rx
  | tup _ _ => exact deep _ rx
theorem bl_ok (hu : Roomy Y.A) (hc : Y.calm = true) (f : Bl) : CallR Y f.val (rB Y.K f.run) := by
  intro pins s σ H vs us Q I r h
  obtain ⟨B, ps, p, dom, hv, e, g⟩ := h
  have hh := fun (σ H s) (I : Inv Y pins σ H s) => I.ok.hd hc
  unfold Bl.run at e
  split at e
  · cases e
    obtain ⟨v, rfl, hx⟩ := dq1 hv
    cases hx with
    | tup h1 h2 =>
      rw [← h2.length] at g
      exact call_len_seq pins s σ H _ us Q I r ⟨_, _, rfl, .inr (seqT_mono hide_sub h1), gives_now g (.int _)⟩
  · cases e
    obtain ⟨v, rfl, hx⟩ := dq1 hv
    cases hx with
    | lst h1 h2 =>
      rw [← h2.length] at g
      exact call_len_seq pins s σ H _ us Q I r ⟨_, _, rfl, .inl (.inl (.inl (hide_sub _ _ h1))), gives_now g (.int _)⟩
  · split at e
    · rename_i hz
      cases e
      obtain ⟨v, rfl, hx⟩ := dq1 hv
      cases hx
      exact call_len_str pins s σ H _ us Q I r ⟨_, rfl, fits_le hz, gives_now g (.int _)⟩
    · cases e
  · cases e
    obtain ⟨v, rfl, hx⟩ := dq1 hv
    cases hx with
    | tup h1 h2 => exact call_tuple_of pins s σ H _ us Q I r ⟨_, _, rfl, .inr ⟨seqT_mono hide_sub h1, gives_now g (.tup h1 h2)⟩⟩
  · cases e
    obtain ⟨v, rfl, hx⟩ := dq1 hv
    cases hx with
    | lst h1 h2 => exact call_tuple_of pins s σ H _ us Q I r ⟨_, _, rfl, .inl ⟨.inl (.inl (hide_sub _ _ h1)), fun a ha => gives_tup dom g h2 ha⟩⟩
  · cases e
    obtain ⟨v, rfl, hx⟩ := dq1 hv
    cases hx with
    | tup h1 h2 => exact call_list_of pins s σ H _ us Q I r ⟨_, _, rfl, .inr (seqT_mono hide_sub h1), fun a ha => gives_lst dom g h2 ha⟩
  · cases e
    obtain ⟨v, rfl, hx⟩ := dq1 hv
    cases hx with
    | lst h1 h2 => exact call_list_of pins s σ H _ us Q I r ⟨_, _, rfl, .inl (.inl (.inl (hide_sub _ _ h1))), fun a ha => gives_lst dom g h2 ha⟩
  · obtain ⟨ns, e1, rfl⟩ := Option.map_eq_some_iff.mp e
    obtain ⟨v, rfl, hx⟩ := dq1 hv
    cases hx with
    | lst h1 h2 =>
      have e2 := h2.ints e1
      subst e2
      exact cr_sum hc pins s σ H _ us Q I r ⟨_, ns, rfl, .inl (.inl (hide_sub _ _ h1)), gives_now g (.int _)⟩
  · obtain ⟨ns, e1, rfl⟩ := Option.map_eq_some_iff.mp e
    obtain ⟨v, rfl, hx⟩ := dq1 hv
    cases hx with
    | tup h1 h2 =>
      have e2 := h2.ints e1
      subst e2
      have e3 := r.ref1
      subst e3
      obtain ⟨its, rv, pl, _⟩ := I.tuple (seqT_mono hide_sub h1)
      exact sum_tuple (I.ok.hd hc) pl rv.ints fun h' tk t' hk => ⟨.int ns.sum, H, I.kept (t' := tk) hk, ⟨_, rfl⟩, gives_now g (.int _)⟩
  · obtain ⟨ns, e1, rfl⟩ := Option.map_eq_some_iff.mp e
    obtain ⟨v, rfl, hx⟩ := dq1 hv
    cases hx with
    | lst h1 h2 =>
      have e2 := h2.bools e1
      subst e2
      exact cr_all hc pins s σ H _ us Q I r ⟨_, ns, rfl, .inl (.inl (hide_sub _ _ h1)), gives_now g (.bl _)⟩
  · obtain ⟨ns, e1, rfl⟩ := Option.map_eq_some_iff.mp e
    obtain ⟨v, rfl, hx⟩ := dq1 hv
    cases hx with
    | lst h1 h2 =>
      have e2 := h2.bools e1
      subst e2
      exact cr_any hc pins s σ H _ us Q I r ⟨_, ns, rfl, .inl (.inl (hide_sub _ _ h1)), gives_now g (.bl _)⟩
  · cases e
    obtain ⟨v, rfl, hx⟩ := dq1 hv
    cases hx
    exact call_abs pins s σ H _ us Q I r ⟨_, rfl, gives_now g (.int _)⟩
  · cases e
    obtain ⟨v, u, rfl, hx, hy⟩ := dq2 hv
    cases hx; cases hy
    exact call_max2 hc pins s σ H _ us Q I r ⟨_, _, rfl, gives_now g (.int _)⟩
  · cases e
    obtain ⟨v, u, rfl, hx, hy⟩ := dq2 hv
    cases hx; cases hy
    exact call_min2 hc pins s σ H _ us Q I r ⟨_, _, rfl, gives_now g (.int _)⟩
  · split at e
    · rename_i n ns e1
      cases e
      obtain ⟨v, rfl, hx⟩ := dq1 hv
      cases hx with
      | lst h1 h2 =>
        have e2 := h2.ints e1
        subst e2
        refine cr_max hc pins s σ H _ us Q I r ⟨_, n :: ns, rfl, .inl (.inl (hide_sub _ _ h1)), by simp, fun m m1 m2 => ?_⟩
        rw [maxI_eq m1 m2]
        exact gives_now g (.int _)
    · cases e
  · split at e
    · rename_i n ns e1
      cases e
      obtain ⟨v, rfl, hx⟩ := dq1 hv
      cases hx with
      | lst h1 h2 =>
        have e2 := h2.ints e1
        subst e2
        refine cr_min hc pins s σ H _ us Q I r ⟨_, n :: ns, rfl, .inl (.inl (hide_sub _ _ h1)), by simp, fun m m1 m2 => ?_⟩
        rw [minI_eq m1 m2]
        exact gives_now g (.int _)
    · cases e
  · split at e
    · rename_i hz
      cases e
      simp only [Bool.and_eq_true, Bool.not_eq_true'] at hz
      obtain ⟨⟨⟨z1, z2⟩, z3⟩, z4⟩ := hz
      obtain ⟨v, rfl, hx⟩ := dq1 hv
      obtain ⟨u, rfl, rx⟩ := vals1 r
      exact repr_ok hu I rx (hx.dp hide_sub) z1 z2 (fits_le z3) (SeqAt.depth_of_shaped z4) (gives_now g (.str _))
    · cases e
  · cases e
    obtain ⟨v, rfl, hx⟩ := dq1 hv
    cases hx
    exact call_int1 pins s σ H _ us Q I r (.inl ⟨_, rfl, gives_now g (.int _)⟩)
  · cases e
    obtain ⟨v, rfl, hx⟩ := dq1 hv
    cases hx
    exact call_int1 pins s σ H _ us Q I r (.inr ⟨_, rfl, gives_now g (.int _)⟩)
  · cases e
/-- len(script), script[i] -/
theorem len_scr {K : PySem.W.Frag} (hK : K = Y.K) : CallR Y (.builtin "len") (fun vs H Q => ∃ a ns, vs = [.ref a] ∧ SqL K H a (List.map V.int ns) ∧ Q (.int (ns.length : Nat)) H) := by
  subst hK
  intro pins s σ H vs us Q I r h
  obtain ⟨a, ns, rfl, hs, q⟩ := h
  refine call_len_seq pins s σ H _ us Q I r ⟨_, _, rfl, .inl hs, ?_⟩
  rw [List.length_map]
  exact q

/-! ### isinstance -/
def Ty.name : Ty → String
  | .int => "int"
  | .bool => "bool"
  | .str => "str"
  | .tuple => "tuple"
  | .list => "list"
theorem isi_ok {pins : List (Addr × Obj)} {s : Shared} {σ : L2.St} {H : Hp} {x : V} {u : Value} {Q : VK} {B : Addr → Prop} {p : PyData} (t : Ty) (I : Inv Y pins σ H s) (rx : RelV x u) (hx : Dq Y.K (hide B H) x p) (q : Q (.bl (t.is p)) H) :
    wpAny (model Y.prog Y.w) Y.A (call (.builtin "isinstance") [u, .type t.name]) (EP Y pins σ Q) Y.xe s := by
  have key : ∀ (n : String) (b : Bool), TyX Y.K H x (.type n) → kitB n t.name = some b → t.is p = b → wpAny (model Y.prog Y.w) Y.A (call (.builtin "isinstance") [u, .type t.name]) (EP Y pins σ Q) Y.xe s := fun n b ty k e => by
    refine call_isi pins s σ H [x, .ty t.name] [u, .type t.name] Q I (.cons rx (.cons rfl .nil)) ⟨x, .ty t.name, .type n, .type t.name, b, rfl, .ty _, ty, kit_ty k, ?_⟩
    rw [← e]
    exact q
  cases hx with
  | non => cases t <;> exact key "NoneType" false (.base .non) (by decide +kernel) rfl
  | bl b => cases t <;> first | exact key "bool" true (.base (.bl _)) (by decide +kernel) rfl | exact key "bool" false (.base (.bl _)) (by decide +kernel) rfl
  | int i => cases t <;> first | exact key "int" true (.base (.int _)) (by decide +kernel) rfl | exact key "int" false (.base (.int _)) (by decide +kernel) rfl
  | str y => cases t <;> first | exact key "str" true (.base (.str _)) (by decide +kernel) rfl | exact key "str" false (.base (.str _)) (by decide +kernel) rfl
  | lst h1 h2 =>
    have ty : TyX Y.K H _ (.type "list") := .base (.lst (hide_sub _ _ h1))
    cases t <;> first | exact key "list" true ty (by decide +kernel) rfl | exact key "list" false ty (by decide +kernel) rfl
  | @tup a xs ds h1 h2 =>
    have ty : TyX Y.K H (.ref a) (.type "tuple") := by
      rcases seqT_mono hide_sub h1 with (h | ⟨o, h⟩) | ⟨o, its, n, h, hc, _⟩
      · exact .base (.tup h)
      · exact .fTuple h
      · exact .kTuple h hc
    cases t <;> first | exact key "tuple" true ty (by decide +kernel) rfl | exact key "tuple" false ty (by decide +kernel) rfl
end
end Fb

set_option Elab.async false
set_option linter.all false
set_option maxRecDepth 100000
set_option maxHeartbeats 1000000
/-! names' places, targets, calls -/
namespace Fb
open PySem PySem.Spec PyProof.Rows L2

/-! ### places -/
section
variable {K : PySem.W.Frag} {w0 w : Wo} {H0 H : Hp} {env : Env} {σ : L2.St}
theorem EnvOk.setV {i : Nat} {x : D} {v : V} (h : EnvOk K w0 H0 env w σ H) (r : Rep K w H x v) : EnvOk K w0 H0 (env.set i (.v x)) w (σ.set i (some v)) H := by
  have ne : ∀ (j : Nat) (ps : List PyData), (env.set i (.v x))[j]? = some (.own ps) → j ≠ i ∧ env[j]? = some (.own ps) := fun j ps q => by
    by_cases e : i = j
    · subst e
      rw [List.getElem?_set] at q
      split at q
      · split at q <;> cases q
      · exact absurd rfl (by assumption)
    · rw [List.getElem?_set_ne e] at q
      exact ⟨fun z => e z.symm, q⟩
  refine ⟨h.ext, by rw [List.length_set, List.length_set]; exact h.len, fun j y q => ?_, fun j ps q => ?_, fun j k ps qs a q1 q2 q3 q4 => ?_⟩
  · by_cases e : i = j
    · subst e
      have hl : i < env.length := by
        have := (List.getElem?_eq_some_iff.mp q).1
        simpa using this
      rw [List.getElem?_set_self hl] at q
      cases q
      exact ⟨v, List.getElem?_set_self (by rw [← h.len]; exact hl), r⟩
    · rw [List.getElem?_set_ne e] at q
      obtain ⟨u, h1, h2⟩ := h.val j y q
      exact ⟨u, by rw [List.getElem?_set_ne e]; exact h1, h2⟩
  · obtain ⟨e, q⟩ := ne j ps q
    obtain ⟨a, vs, h1, h2⟩ := h.own j ps q
    exact ⟨a, vs, by rw [List.getElem?_set_ne (Ne.symm e)]; exact h1, h2⟩
  · obtain ⟨e1, q1⟩ := ne j ps q1
    obtain ⟨e2, q2⟩ := ne k qs q2
    rw [List.getElem?_set_ne (Ne.symm e1)] at q3
    rw [List.getElem?_set_ne (Ne.symm e2)] at q4
    exact h.apart j k ps qs a q1 q2 q3 q4
theorem wipe_get (σ : L2.St) : ∀ (vs : List Nat) (i : Nat), (wipe σ vs)[i]? = if i ∈ vs ∧ i < σ.length then some none else σ[i]?
  | [], i => by simp [wipe]
  | v :: vs, i => by
    unfold wipe
    rw [List.getElem?_set, wipe_get σ vs i, wipe_length]
    by_cases e : v = i
    · subst e
      by_cases l : v < σ.length
      · simp [l]
      · simp [l]
    · rw [if_neg e]
      have e' : ¬ i = v := fun z => e z.symm
      simp [e']
theorem wipeE_get (env : Env) : ∀ (vs : List Nat) (i : Nat), (wipeE env vs)[i]? = if i ∈ vs ∧ i < env.length then some .un else env[i]?
  | [], i => by simp [wipeE]
  | v :: vs, i => by
    have hl : ∀ vs, (wipeE env vs).length = env.length := fun vs => by
      induction vs with
      | nil => rfl
      | cons a r ih => unfold wipeE; rw [List.length_set, ih]
    unfold wipeE
    rw [List.getElem?_set, wipeE_get env vs i, hl]
    by_cases e : v = i
    · subst e
      by_cases l : v < env.length
      · simp [l]
      · simp [l]
    · rw [if_neg e]
      have e' : ¬ i = v := fun z => e z.symm
      simp [e']
theorem wipeE_length (env : Env) : ∀ vs : List Nat, (wipeE env vs).length = env.length
  | [] => rfl
  | a :: r => by unfold wipeE; rw [List.length_set, wipeE_length env r]
theorem wipe_eq {σ σ2 : L2.St} {vs : List Nat} (hl : σ2.length = σ.length) (h : ∀ i, i ∉ vs → σ2[i]? = σ[i]?) : wipe σ2 vs = wipe σ vs := by
  apply List.ext_getElem?
  intro i
  rw [wipe_get, wipe_get, hl]
  by_cases e : i ∈ vs
  · by_cases l : i < σ.length
    · simp [e, l]
    · simp [l]
      omega
  · simp [e]
    exact h i e
theorem EnvOk.wiped (h : EnvOk K w0 H0 env w σ H) (vs : List Nat) : EnvOk K w0 H0 (wipeE env vs) w (wipe σ vs) H := by
  have at_ : ∀ (i : Nat) (y : Sl), y ≠ .un → (wipeE env vs)[i]? = some y → env[i]? = some y ∧ (wipe σ vs)[i]? = σ[i]? := fun i y hy q => by
    rw [wipeE_get] at q
    rw [wipe_get, ← h.len]
    split at q
    · cases q; exact absurd rfl hy
    · rename_i e
      rw [if_neg e]
      exact ⟨q, rfl⟩
  refine ⟨h.ext, by rw [wipeE_length, wipe_length]; exact h.len, fun i x q => ?_, fun i ps q => ?_, fun i j ps qs a q1 q2 q3 q4 => ?_⟩
  · obtain ⟨e1, e2⟩ := at_ i (.v x) (fun z => by cases z) q
    obtain ⟨v, h1, h2⟩ := h.val i x e1
    exact ⟨v, by rw [e2]; exact h1, h2⟩
  · obtain ⟨e1, e2⟩ := at_ i (.own ps) (fun z => by cases z) q
    obtain ⟨a, us, h1, h2⟩ := h.own i ps e1
    exact ⟨a, us, by rw [e2]; exact h1, h2⟩
  · obtain ⟨e1, e2⟩ := at_ i (.own ps) (fun z => by cases z) q1
    obtain ⟨e3, e4⟩ := at_ j (.own qs) (fun z => by cases z) q2
    rw [e2] at q3
    rw [e4] at q4
    exact h.apart i j ps qs a e1 e3 q3 q4
end

/-! ### no star -/
def plainE : Expr → Bool
  | .Starred _ _ => false
  | _ => true
theorem star_cons {e : Expr} {es : List Expr} {env : PySem.Env} (h : plainE e = true) : starEach (e :: es) env = (false, eval e env) :: starEach es env := by
  cases e <;> first | rfl | cases h
theorem star_none {env : PySem.Env} {pos : Pos} : ∀ {es : List Expr}, es.all plainE = true → (backTo pos (starEach es env)).any (·.1) = false
  | [], _ => rfl
  | e :: es, h => by
    simp only [List.all_cons, Bool.and_eq_true] at h
    rw [star_cons h.1]
    have ih := star_none (env := env) (pos := pos) h.2
    simpa [backTo] using ih
theorem assign_cons {e : Expr} {es : List Expr} {env : PySem.Env} (h : plainE e = true) : assignEach (e :: es) env = (false, assign e env) :: assignEach es env := by
  cases e <;> first | rfl | cases h
theorem assign_len {env : PySem.Env} : ∀ {es : List Expr}, es.all plainE = true → (assignEach es env).length = es.length ∧ (assignEach es env).findIdx? (·.1) = none
  | [], _ => ⟨rfl, rfl⟩
  | e :: es, h => by
    simp only [List.all_cons, Bool.and_eq_true] at h
    obtain ⟨h1, h2⟩ := assign_len (env := env) h.2
    rw [assign_cons h.1]
    refine ⟨by simp [h1], ?_⟩
    rw [List.findIdx?_cons]
    simp [h2]

/-! ### targets -/
mutual
def T.slots : T → List Nat
  | .nm i => [i]
  | .tp ts => ts.slots
def Ts.slots : Ts → List Nat
  | .nil => []
  | .cons t ts => t.slots ++ ts.slots
end
def locOk (sc : Scope) (fb : Str → Bool) (x : Str) : Bool := match sc.names.lookup x with
  | some .local => true
  | some .cell => fb x
  | _ => false
mutual
def T.chk (N : List Str) (sc : Scope) (fb : Str → Bool) : T → Expr → Bool
  | .nm i, .Name x _ => decide (N[i]? = some x) && locOk sc fb x
  | .tp ts, .Tuple es _ _ => ts.chk N sc fb es
  | _, _ => false
def Ts.chk (N : List Str) (sc : Scope) (fb : Str → Bool) : Ts → List Expr → Bool
  | .nil, [] => true
  | .cons t ts, e :: es => plainE e && (t.chk N sc fb e && ts.chk N sc fb es)
  | _, _ => false
end
theorem loc_of {Y : Cx} {fb : Str → Bool} {sc : Scope} {x : Str} (hs : Y.env.scope = sc) (hf : Y.fn = fb) (h : locOk sc fb x = true) : Loc Y.env.scope x ∧ (Y.fn x = true ∨ Y.env.scope.names.lookup x = some .local) := by
  subst hs hf
  unfold locOk at h
  split at h
  · rename_i q; exact ⟨.inl q, .inr q⟩
  · rename_i q; exact ⟨.inr q, .inl h⟩
  · cases h
section
variable (K : PySem.W.Frag) (w0 : Wo) (H0 : Hp)
def tG (t : T) : TG := fun v σ H Q => ∃ (w : Wo) (st : Sto) (env : Env) (x : D) (env' : Env), EnvOk K w0 H0 env w σ H ∧ Wd K st w H ∧ Rep K w H x v ∧ t.bind x env = some env' ∧
  ∀ σ', EnvOk K w0 H0 env' w σ' H → σ'.length = σ.length → (∀ i, i ∉ t.slots → σ'[i]? = σ[i]?) → Q σ' H
def tGs (ts : Ts) : TGs := fun vs σ H Q => ∃ (w : Wo) (st : Sto) (env : Env) (xs : List D) (env' : Env), EnvOk K w0 H0 env w σ H ∧ Wd K st w H ∧ Reps K w H xs vs ∧ ts.bind xs env = some env' ∧
  ∀ σ', EnvOk K w0 H0 env' w σ' H → σ'.length = σ.length → (∀ i, i ∉ ts.slots → σ'[i]? = σ[i]?) → Q σ' H
end
theorem PG.imp {Y : Cx} {e : Expr} {t t' : TG} (h : PG Y e t) (i : ∀ v σ H Q, t' v σ H Q → t v σ H Q) : PG Y e t' := ⟨fun pins s σ H v u Q I r q => h.run pins s σ H v u Q I r (i v σ H Q q)⟩
theorem PGs.imp {Y : Cx} {e : List Expr} {t t' : TGs} (h : PGs Y e t) (i : ∀ v σ H Q, t' v σ H Q → t v σ H Q) : PGs Y e t' := ⟨fun pins s σ H v u Q I r q => h.run pins s σ H v u Q I r (i v σ H Q q)⟩
mutual
theorem sndT {K : PySem.W.Frag} {w0 : Wo} {H0 : Hp} {N : List Str} {sc : Scope} {fb : Str → Bool} {Y : Cx} (hK : Y.K = K) (hN : Y.N = N) (hnd : Y.N.Nodup) (hs : Y.env.scope = sc) (hf : Y.fn = fb) (hc : Y.calm = true) :
    ∀ (t : T) (e : Expr), t.chk N sc fb e = true → PG Y e (tG K w0 H0 t)
  | .nm i, e, h => by
    unfold T.chk at h
    split at h
    · rename_i i' x pos e1
      cases e1
      simp only [Bool.and_eq_true, decide_eq_true_eq] at h
      obtain ⟨l1, l2⟩ := loc_of hs hf h.2
      refine PG.imp (pg_name hnd (by rw [hN]; exact h.1) l1 l2) fun v σ H Q q => ?_
      obtain ⟨w, st, env, y, env', hE, hW, r, b, k⟩ := q
      unfold T.bind at b
      split at b
      · cases b
        refine k _ (hE.setV r) (by rw [List.length_set]) fun j hj => ?_
        rw [List.getElem?_set_ne]
        intro z
        exact hj (by simp [T.slots, z])
      · cases b
    · rename_i e1; cases e1
    · cases h
  | .tp ts, e, h => by
    unfold T.chk at h
    split at h
    · rename_i e1; cases e1
    · rename_i ts' es kk pos e1
      cases e1
      have hp := allP ts es h
      obtain ⟨l1, l2⟩ := assign_len (env := Y.env) hp
      refine PG.imp (pg_tup hc (sndTs (K := K) (w0 := w0) (H0 := H0) hK hN hnd hs hf hc ts es h) l1 l2) fun v σ H Q q => ?_
      obtain ⟨w, st, env, y, env', hE, hW, r, b, k⟩ := q
      cases y with
      | d p =>
        cases p with
        | tuple ps =>
          simp only [T.bind] at b
          cases r with
          | tup h1 h2 =>
            have h3 := reps_of (w := w) h2
            have lb := bindLen ts _ _ _ b
            subst hK
            refine ⟨_, _, rfl, seqT_mono hide_sub h1, ?_, w, st, env, _, env', hE, hW, h3, b, k⟩
            rw [reps_len h3, lb]
            exact lenE ts es h
        | _ => simp [T.bind] at b
      | _ => simp [T.bind] at b
    · cases h
theorem sndTs {K : PySem.W.Frag} {w0 : Wo} {H0 : Hp} {N : List Str} {sc : Scope} {fb : Str → Bool} {Y : Cx} (hK : Y.K = K) (hN : Y.N = N) (hnd : Y.N.Nodup) (hs : Y.env.scope = sc) (hf : Y.fn = fb) (hc : Y.calm = true) :
    ∀ (ts : Ts) (es : List Expr), ts.chk N sc fb es = true → PGs Y es (tGs K w0 H0 ts)
  | .nil, [], _ => by
    refine PGs.imp pgs_nil fun v σ H Q q => ?_
    obtain ⟨w, st, env, xs, env', hE, hW, r, b, k⟩ := q
    cases xs with
    | nil =>
      simp only [Ts.bind] at b
      cases b
      cases v with
      | nil => exact ⟨rfl, k σ hE rfl fun _ _ => rfl⟩
      | cons _ _ => exact r.elim
    | cons _ _ => simp [Ts.bind] at b
  | .cons t ts, e :: es, h => by
    simp only [Ts.chk, Bool.and_eq_true] at h
    obtain ⟨h1, h2, h3⟩ := h
    refine PGs.imp (pgs_cons (sndT (K := K) (w0 := w0) (H0 := H0) hK hN hnd hs hf hc t e h2) (sndTs (K := K) (w0 := w0) (H0 := H0) hK hN hnd hs hf hc ts es h3) (by rw [assign_cons h1]; rfl)) fun v σ H Q q => ?_
    obtain ⟨w, st, env, xs, env', hE, hW, r, b, k⟩ := q
    cases xs with
    | nil => simp [Ts.bind] at b
    | cons x xs =>
      simp only [Ts.bind] at b
      obtain ⟨env1, b1, b2⟩ := Option.bind_eq_some_iff.mp b
      cases v with
      | nil => exact r.elim
      | cons u us =>
        obtain ⟨r1, r2⟩ := r
        refine ⟨u, us, rfl, w, st, env, _, env1, hE, hW, r1, b1, fun σ1 hE1 hl1 ha1 => ⟨w, st, env1, _, env', hE1, hW, r2, b2, fun σ2 hE2 hl2 ha2 => k σ2 hE2 (hl2.trans hl1) fun i hi => ?_⟩⟩
        simp only [Ts.slots, List.mem_append, not_or] at hi
        rw [ha2 i hi.2, ha1 i hi.1]
  | .nil, _ :: _, h => by simp [Ts.chk] at h
  | .cons _ _, [], h => by simp [Ts.chk] at h
theorem allP {N : List Str} {sc : Scope} {fb : Str → Bool} : ∀ (ts : Ts) (es : List Expr), ts.chk N sc fb es = true → es.all plainE = true
  | .nil, [], _ => rfl
  | .cons t ts, e :: es, h => by
    simp only [Ts.chk, Bool.and_eq_true] at h
    simp only [List.all_cons, Bool.and_eq_true]
    exact ⟨h.1, allP ts es h.2.2⟩
  | .nil, _ :: _, h => by simp [Ts.chk] at h
  | .cons _ _, [], h => by simp [Ts.chk] at h
theorem lenE {N : List Str} {sc : Scope} {fb : Str → Bool} : ∀ (ts : Ts) (es : List Expr), ts.chk N sc fb es = true → ts.len = es.length
  | .nil, [], _ => rfl
  | .cons t ts, e :: es, h => by
    simp only [Ts.chk, Bool.and_eq_true] at h
    simp only [Ts.len, List.length_cons, lenE ts es h.2.2]
  | .nil, _ :: _, h => by simp [Ts.chk] at h
  | .cons _ _, [], h => by simp [Ts.chk] at h
theorem bindLen : ∀ (ts : Ts) (xs : List D) (env env' : Env), ts.bind xs env = some env' → xs.length = ts.len
  | .nil, [], _, _, _ => rfl
  | .cons t ts, x :: xs, env, env', h => by
    simp only [Ts.bind] at h
    obtain ⟨e1, _, h2⟩ := Option.bind_eq_some_iff.mp h
    simp only [Ts.len, List.length_cons, bindLen ts xs e1 env' h2]
  | .nil, _ :: _, _, _, h => by simp [Ts.bind] at h
  | .cons _ _, [], _, _, h => by simp [Ts.bind] at h
end
end Fb

set_option Elab.async false
set_option linter.all false
set_option maxRecDepth 100000
set_option maxHeartbeats 1000000
/-! what loops walk; a new list that grows turn by turn -/
namespace Fb
open PySem PySem.Spec PyProof.Rows L2
section
variable {K : PySem.W.Frag} {X : XR} {E : XK} {w0 w w' : Wo} {H0 H H' : Hp} {st : Sto}
/-- a reading whose run is known -/
theorem tE_ok {m : Env → M D} {env : Env} {σ : L2.St} {a : D} {st' : Sto} {Q : VK} (hE : EnvOk K w0 H0 env w σ H) (hW : Wd K st w H) (e : m env st = .ok a st') (k : ∀ w' H' v, Ext w H w' H' → Wd K st' w' H' → Rep K w' H' a v → Q v H') : tE K X w0 H0 E m σ H Q :=
  ⟨w, st, env, hE, hW, by rw [e]; exact fun w' H' x d v r => k w' H' v x d r⟩
theorem tT_ok {m : Env → M Bool} {env : Env} {σ : L2.St} {a : Bool} {st' : Sto} {Q : Bool → Hp → Prop} (hE : EnvOk K w0 H0 env w σ H) (hW : Wd K st w H) (e : m env st = .ok a st') (k : ∀ w' H', Ext w H w' H' → Wd K st' w' H' → Q a H') : tT K X w0 H0 E m σ H Q :=
  ⟨w, st, env, hE, hW, by rw [e]; exact fun w' H' x d => k w' H' x d⟩
/-- runs in a row -/
theorem bind_ok {α β : Type} {m : M α} {f : α → M β} {st st' : Sto} {b : β} (h : M.bind m f st = .ok b st') : ∃ a s1, m st = .ok a s1 ∧ f a s1 = .ok b st' := by
  unfold M.bind at h
  cases q : m st with
  | ok a s1 => rw [q] at h; exact ⟨a, s1, rfl, h⟩
  | exc c p s1 => rw [q] at h; cases h
  | bad => rw [q] at h; cases h
theorem lift_ok {α : Type} {o : Option α} {st st' : Sto} {b : α} (h : M.lift o st = .ok b st') : o = some b ∧ st' = st := by
  cases o with
  | none => cases h
  | some a => cases h; exact ⟨rfl, rfl⟩
theorem need_ok {β : Type} {x : D} {f : PyData → M β} {st st' : Sto} {b : β} (h : need x f st = .ok b st') : ∃ p, x = .d p ∧ f p st = .ok b st' := by
  cases x with
  | d p => exact ⟨p, rfl, h⟩
  | _ => cases h
theorem calm_ok {α : Type} {m : M α} {st : Sto} {k : α → Sto → Wo → Hp → Prop} (h : outX K X E w H (M.calm m st) k) : ∃ a st', m st = .ok a st' ∧ ∀ w' H', Ext w H w' H' → Wd K st' w' H' → k a st' w' H' := by
  unfold M.calm at h
  cases q : m st with
  | ok a s1 => rw [q] at h; exact ⟨a, s1, rfl, h⟩
  | exc c p s1 => rw [q] at h; exact h.elim
  | bad => rw [q] at h; exact h.elim

/-! ### an address that no datum leans on -/
theorem hide_poke {B : Addr → Prop} {D : Addr} {o : HO} (h : B D) : hide B (upd H D o) = hide B H := by
  funext a
  unfold hide
  by_cases e : B a
  · simp [e]
  · simp [e]
    exact upd_ne fun z => e (z ▸ h)
theorem Ext.poke {D : Addr} {o : HO} (e : Ext w H w' H') (hD : H D = none) : Ext w H w' (upd H' D o) := by
  refine ⟨e.mu, fun a u h hn => ?_, fun a h => ?_, e.up, e.new⟩
  · rw [upd_ne (ne_of_none h hD)]
    exact e.keep a u h hn
  · by_cases z : a = D
    · rw [z, upd_same]; simp
    · rw [upd_ne z]; exact e.dom a h
theorem Wd.poke {D : Addr} {o : HO} (d : Wd K st w H) (hB : w.B D) (hm : D ∉ w.μ) : Wd K st w (upd H D o) := by
  refine ⟨d.nd, d.len, d.sub, fun a h => ?_, fun n ob h => ?_⟩
  · by_cases z : a = D
    · rw [z, upd_same]; simp
    · rw [upd_ne z]; exact d.dom a h
  · obtain ⟨a, h1, h2⟩ := d.obs n ob h
    have ne : a ≠ D := fun z => hm (z ▸ List.mem_of_getElem? h1)
    refine ⟨a, h1, ?_⟩
    cases ob with
    | lst xs =>
      obtain ⟨vs, e, r⟩ := h2
      refine ⟨vs, by rw [upd_ne ne]; exact e, reps_mono ⟨List.prefix_rfl, ?_⟩ r⟩
      rw [hide_poke hB]
      exact Same.refl _
/-- the world with one address more that data may not lean on -/
def Wo.hold (w : Wo) (D : Addr) : Wo := ⟨w.μ, fun a => w.B a ∨ a = D⟩
def Wo.free (w : Wo) (D : Addr) : Wo := ⟨w.μ, fun a => w.B a ∧ a ≠ D⟩
theorem Ext.hold {D : Addr} {o : HO} (hD : H D = none) : Ext w H (w.hold D) (upd H D o) := by
  refine ⟨⟨[], by simp [Wo.hold], by simp⟩, fun a u h _ => by rw [upd_ne (ne_of_none h hD)]; exact h, fun a h => ?_, fun a h => .inl h, fun a h => ?_⟩
  · by_cases z : a = D
    · rw [z, upd_same]; simp
    · rw [upd_ne z]; exact h
  · rcases h with h | h
    · exact .inl h
    · exact .inr (h ▸ hD)
theorem Wd.go {w1 : Wo} {H1 : Hp} (d : Wd K st w H) (e : Ext w H w1 H1) (hμ : w1.μ = w.μ) (hk : ∀ a ∈ w.μ, H1 a = H a) (hd : ∀ a, w1.B a → H1 a ≠ none) : Wd K st w1 H1 := by
  have hx := e.hx d
  refine ⟨by rw [hμ]; exact d.nd, by rw [hμ]; exact d.len, fun a h => e.up a (d.sub a (hμ ▸ h)), hd, fun n ob h => ?_⟩
  obtain ⟨a, h1, h2⟩ := d.obs n ob h
  refine ⟨a, by rw [hμ]; exact h1, ?_⟩
  cases ob with
  | lst xs =>
    obtain ⟨vs, e, r⟩ := h2
    exact ⟨vs, by rw [hk a (List.mem_of_getElem? h1)]; exact e, reps_mono hx r⟩
theorem Wd.hold {D : Addr} {o : HO} (d : Wd K st w H) (hD : H D = none) : Wd K st (w.hold D) (upd H D o) := by
  refine d.go (Ext.hold hD) rfl (fun a h => upd_ne fun z => ?_) fun a h => ?_
  · exact d.dom a (d.sub a h) (z ▸ hD)
  · rcases h with h | h
    · by_cases z : a = D
      · rw [z, upd_same]; simp
      · rw [upd_ne z]; exact d.dom a h
    · rw [h, upd_same]; simp
theorem hx_free {D : Addr} : HX w H (w.free D) H := ⟨List.prefix_rfl, fun a o h => by
  obtain ⟨h1, h2⟩ := hide_some.mp h
  exact hide_some.mpr ⟨fun z => h1 z.1, h2⟩⟩
theorem Wd.free {D : Addr} (d : Wd K st w H) (hm : D ∉ w.μ) : Wd K st (w.free D) H := by
  refine ⟨d.nd, d.len, fun a h => ⟨d.sub a h, fun z => hm (z ▸ h)⟩, fun a h => d.dom a h.1, fun n ob h => ?_⟩
  obtain ⟨a, h1, h2⟩ := d.obs n ob h
  refine ⟨a, h1, ?_⟩
  cases ob with
  | lst xs =>
    obtain ⟨vs, e, r⟩ := h2
    exact ⟨vs, e, reps_mono hx_free r⟩
theorem Ext.free {D : Addr} (e : Ext w H w' H') (d : Wd K st w H) (hD : H D = none) : Ext w H (w'.free D) H' :=
  ⟨e.mu, e.keep, e.dom, fun a h => ⟨e.up a h, fun z => d.dom a h (z ▸ hD)⟩, fun a h => e.new a h.1⟩
theorem Ext.notIn {D : Addr} (e : Ext w H w' H') (h : H D ≠ none) (hm : D ∉ w.μ) : D ∉ w'.μ := by
  obtain ⟨ν, e1, f1⟩ := e.mu
  rw [e1]
  intro z
  rcases List.mem_append.mp z with z | z
  · exact hm z
  · exact h (f1 D z)
end

/-! ### what is walked -/
structure Walk (K : PySem.W.Frag) (J : L2.It) (items : List D) (w : Wo) (H : Hp) : Prop where
  go : ∀ (w2 : Wo) (H2 : Hp) (i : Nat) (x : D), HX w H w2 H2 → (∀ a, w2.B a → H2 a ≠ none) → items[i]? = some x → J.go i H2 ∧ ∀ v H3, J.yld i H2 v H3 → Same H2 H3 ∧ Rep K w2 H3 x v
  stop : ∀ (w2 : Wo) (H2 : Hp), HX w H w2 H2 → J.stop items.length H2
def tI (K : PySem.W.Frag) (X : XR) (w0 : Wo) (H0 : Hp) (E : XK) (m : Env → M (List D)) : TI := fun σ H R => ∃ (w : Wo) (st : Sto) (env : Env), EnvOk K w0 H0 env w σ H ∧ Wd K st w H ∧ outX K X E w H (m env st) fun items _ w' H' => ∀ J, Walk K J items w' H' → R J H'
theorem PI.imp {Y : Cx} {tg e : Expr} {t t' : TI} (h : PI Y tg e t) (i : ∀ σ H R, t' σ H R → t σ H R) : PI Y tg e t' := ⟨fun pins s σ H R I q => h.run pins s σ H R I (i σ H R q)⟩
section
variable {K : PySem.W.Frag} {w : Wo} {H : Hp}
theorem get_map {ps : List PyData} {i : Nat} {x : D} (h : (ps.map D.d)[i]? = some x) : ∃ p, ps[i]? = some p ∧ x = .d p := by
  rw [List.getElem?_map] at h
  obtain ⟨p, h1, h2⟩ := Option.map_eq_some_iff.mp h
  exact ⟨p, h1, h2.symm⟩
theorem walk_list {a : Addr} {vs : List V} {ps : List PyData} (h1 : hide w.B H a = some (.lst vs)) (h2 : DqAll K (hide w.B H) vs ps) : Walk K (Itl K a) (ps.map D.d) w H := by
  refine ⟨fun w2 H2 i x hx hw hi => ?_, fun w2 H2 hx => ?_⟩
  · obtain ⟨p, e1, rfl⟩ := get_map hi
    obtain ⟨u, e2, e3⟩ := h2.get e1
    have q : SqL K H2 a vs := .inl (.inl (hide_sub _ _ (hx.hid _ _ h1)))
    refine ⟨⟨vs, u, q, e2⟩, fun v H3 y => ?_⟩
    obtain ⟨rfl, y⟩ := y
    have e4 := y vs q
    rw [e2] at e4
    cases e4
    exact ⟨Same.refl _, dp_mono hx.hid e3⟩
  · exact ⟨vs, .inl (.inl (hide_sub _ _ (hx.hid _ _ h1))), by rw [List.length_map, h2.length]; exact Nat.le_refl _⟩
theorem walk_tup {a : Addr} {vs : List V} {ps : List PyData} (h1 : SqT K (hide w.B H) a vs) (h2 : DqAll K (hide w.B H) vs ps) : Walk K (Itt K a) (ps.map D.d) w H := by
  refine ⟨fun w2 H2 i x hx hw hi => ?_, fun w2 H2 hx => ?_⟩
  · obtain ⟨p, e1, rfl⟩ := get_map hi
    obtain ⟨u, e2, e3⟩ := h2.get e1
    have q : SqT K H2 a vs := seqT_mono hide_sub (seqT_mono hx.hid h1)
    refine ⟨⟨vs, u, q, e2⟩, fun v H3 y => ?_⟩
    obtain ⟨rfl, y⟩ := y
    have e4 := y vs q
    rw [e2] at e4
    cases e4
    exact ⟨Same.refl _, dp_mono hx.hid e3⟩
  · exact ⟨vs, seqT_mono hide_sub (seqT_mono hx.hid h1), by rw [List.length_map, h2.length]; exact Nat.le_refl _⟩
theorem walk_rng (lo : Int) (n : Nat) : Walk K (Itr lo n) (rangeL lo n) w H := by
  refine ⟨fun w2 H2 i x hx hw hi => ?_, fun w2 H2 hx => ?_⟩
  · unfold rangeL at hi
    rw [List.getElem?_map] at hi
    obtain ⟨k, h1, h2⟩ := Option.map_eq_some_iff.mp hi
    obtain ⟨l, e⟩ := List.getElem?_eq_some_iff.mp h1
    simp at l e
    subst e
    refine ⟨l, fun v H3 y => ?_⟩
    obtain ⟨rfl, rfl⟩ := y
    refine ⟨Same.refl _, ?_⟩
    rw [← h2]
    exact Dq.int _
  · show n ≤ (rangeL lo n).length
    simp [rangeL]
theorem pair_rep {T : Addr} {H2 : Hp} {w2 : Wo} {x y : V} {p q : PyData} (dom : ∀ a, w2.B a → H2 a ≠ none) (nT : H2 T = none) (h1 : Dq K (hide w2.B H2) x p) (h2 : Dq K (hide w2.B H2) y q) :
    Same H2 (upd H2 T (.tup [x, y])) ∧ Rep K w2 (upd H2 T (.tup [x, y])) (tup [p, q]) (.ref T) := by
  refine ⟨same_new nT, gives_tup (K := K) (B := w2.B) (Q := fun v H' => Rep K w2 H' (tup [p, q]) v) dom (fun v H' _ d => d) (.cons h1 (.cons h2 .nil)) nT⟩
theorem zipL_get : ∀ {ps qs : List PyData} {i : Nat} {x : D}, (zipL ps qs)[i]? = some x → ∃ p q, ps[i]? = some p ∧ qs[i]? = some q ∧ x = tup [p, q]
  | [], _, i, x, h => by simp [zipL] at h
  | _ :: _, [], i, x, h => by simp [zipL] at h
  | p :: ps, q :: qs, 0, x, h => by
    simp [zipL] at h
    exact ⟨p, q, rfl, rfl, h.symm⟩
  | p :: ps, q :: qs, i + 1, x, h => by
    simp [zipL] at h
    obtain ⟨a, b, h1, h2, h3⟩ := zipL_get h
    exact ⟨a, b, by simpa using h1, by simpa using h2, h3⟩
theorem zipL_len : ∀ (ps qs : List PyData), (zipL ps qs).length = min ps.length qs.length
  | [], _ => by simp [zipL]
  | _ :: _, [] => by simp [zipL]
  | p :: ps, q :: qs => by simp [zipL, zipL_len ps qs]
theorem enumL_get : ∀ {ps : List PyData} {k i : Nat} {x : D}, (enumL k ps)[i]? = some x → ∃ p, ps[i]? = some p ∧ x = tup [.int ((k + i : Nat) : Int), p]
  | [], k, i, x, h => by simp [enumL] at h
  | p :: ps, k, 0, x, h => by
    simp [enumL] at h
    exact ⟨p, rfl, h.symm⟩
  | p :: ps, k, i + 1, x, h => by
    simp [enumL] at h
    obtain ⟨q, h1, h2⟩ := enumL_get h
    refine ⟨q, by simpa using h1, ?_⟩
    rw [h2, show k + 1 + i = k + (i + 1) by omega]
theorem enumL_len : ∀ (k : Nat) (ps : List PyData), (enumL k ps).length = ps.length
  | _, [] => rfl
  | k, p :: ps => by simp [enumL, enumL_len (k + 1) ps]
theorem walk_zip {a b : Addr} {vs us : List V} {ps qs : List PyData} (h1 : hide w.B H a = some (.lst vs)) (h2 : DqAll K (hide w.B H) vs ps) (h3 : hide w.B H b = some (.lst us)) (h4 : DqAll K (hide w.B H) us qs) : Walk K (Itz K a b) (zipL ps qs) w H := by
  refine ⟨fun w2 H2 i x hx hw hi => ?_, fun w2 H2 hx => ?_⟩
  · obtain ⟨p, q, e1, e2, rfl⟩ := zipL_get hi
    obtain ⟨u, e3, e4⟩ := h2.get e1
    obtain ⟨t, e5, e6⟩ := h4.get e2
    have q1 : SqL K H2 a vs := .inl (.inl (hide_sub _ _ (hx.hid _ _ h1)))
    have q2 : SqL K H2 b us := .inl (.inl (hide_sub _ _ (hx.hid _ _ h3)))
    refine ⟨⟨vs, us, u, t, q1, q2, e3, e5⟩, fun v H3 y => ?_⟩
    obtain ⟨T, x, y, rfl, nT, rfl, f1, f2⟩ := y
    have ex := f1 vs q1
    have ey := f2 us q2
    rw [e3] at ex; cases ex
    rw [e5] at ey; cases ey
    exact pair_rep hw nT (dp_mono hx.hid e4) (dp_mono hx.hid e6)
  · refine ⟨vs, us, .inl (.inl (hide_sub _ _ (hx.hid _ _ h1))), .inl (.inl (hide_sub _ _ (hx.hid _ _ h3))), ?_⟩
    rw [zipL_len, h2.length, h4.length]
    omega
theorem walk_zipT {a b : Addr} {vs us : List V} {ps qs : List PyData} (h1 : SqT K (hide w.B H) a vs) (h2 : DqAll K (hide w.B H) vs ps) (h3 : SqT K (hide w.B H) b us) (h4 : DqAll K (hide w.B H) us qs) : Walk K (RZ.ItzT K a b) (zipL ps qs) w H := by
  refine ⟨fun w2 H2 i x hx hw hi => ?_, fun w2 H2 hx => ?_⟩
  · obtain ⟨p, q, e1, e2, rfl⟩ := zipL_get hi
    obtain ⟨u, e3, e4⟩ := h2.get e1
    obtain ⟨t, e5, e6⟩ := h4.get e2
    have q1 : SqT K H2 a vs := seqT_mono hide_sub (seqT_mono hx.hid h1)
    have q2 : SqT K H2 b us := seqT_mono hide_sub (seqT_mono hx.hid h3)
    refine ⟨⟨vs, us, u, t, q1, q2, e3, e5⟩, fun v H3 y => ?_⟩
    obtain ⟨T, x, y, rfl, nT, rfl, f1, f2⟩ := y
    have ex := f1 vs q1
    have ey := f2 us q2
    rw [e3] at ex; cases ex
    rw [e5] at ey; cases ey
    exact pair_rep hw nT (dp_mono hx.hid e4) (dp_mono hx.hid e6)
  · refine ⟨vs, us, seqT_mono hide_sub (seqT_mono hx.hid h1), seqT_mono hide_sub (seqT_mono hx.hid h3), ?_⟩
    rw [zipL_len, h2.length, h4.length]
    omega
theorem walk_enum {a : Addr} {vs : List V} {ps : List PyData} (h1 : hide w.B H a = some (.lst vs)) (h2 : DqAll K (hide w.B H) vs ps) : Walk K (Ite K a) (enumL 0 ps) w H := by
  refine ⟨fun w2 H2 i x hx hw hi => ?_, fun w2 H2 hx => ?_⟩
  · obtain ⟨p, e1, rfl⟩ := enumL_get hi
    obtain ⟨u, e3, e4⟩ := h2.get e1
    have q1 : SqL K H2 a vs := .inl (.inl (hide_sub _ _ (hx.hid _ _ h1)))
    refine ⟨⟨vs, u, q1, e3⟩, fun v H3 y => ?_⟩
    obtain ⟨T, x, rfl, nT, rfl, f1⟩ := y
    have ex := f1 vs q1
    rw [e3] at ex; cases ex
    rw [Nat.zero_add]
    exact pair_rep hw nT (.int _) (dp_mono hx.hid e4)
  · refine ⟨vs, .inl (.inl (hide_sub _ _ (hx.hid _ _ h1))), ?_⟩
    rw [enumL_len, h2.length]
    exact Nat.le_refl _
end
end Fb

set_option Elab.async false
set_option linter.all false
set_option maxRecDepth 100000
set_option maxHeartbeats 2000000
/-! the check of a program's text against the small language; what it is worth: expressions -/
namespace Fb
open PySem PySem.Spec PyProof.Rows L2

/-! ### a def's promise -/
def spF (K : PySem.W.Frag) (X : XR) (g : List D → M D) : Sp := fun vs H Q E => ∃ (w : Wo) (st : Sto) (ds : List D), Wd K st w H ∧ Reps K w H ds vs ∧ outX K X E w H (g ds st) fun x _ w' H' => ∀ v, Rep K w' H' x v → Q v H'
structure FnG (P : Program) (w : World) (K : PySem.W.Frag) (mg : Str → Option Value) (base : Heap) (k : Nat) (f : Addr) (fd : FuncData) (ps : List Str) (sp : Sp) : Prop where
  len : ∀ vs H Q E, sp vs H Q E → vs.length = ps.length
  run : ∀ (A : Around) (outer : List PySem.Env) (s : Shared) (H : Hp) (args : Args) (us : List Value) (vs : List V) (Q : VK) (E : XK), Room k A → A.guards = some [] → Env0 P w K mg base A outer s H → BindsTo s fd args (ps.zip us) → Vals vs us → sp vs H Q E →
    codeAny (model P w) A (.call (.ref f) args) (CR (L2.CX P w) outer P w H s Q E) s
section
variable {Y : Cx} {k : Nat} {f : Addr} {fd : FuncData} {ps : List Str} {sp : Sp} {E : XK}
theorem run_g {pins : List (Addr × Obj)} {σ : L2.St} {H : Hp} {s : Shared} {Q : VK} {us : List Value} {vs : List V} (F : FnG Y.prog Y.w Y.K Y.mg Y.base k f fd ps sp) (hr : Room k Y.A) (hg : Y.A.guards = some []) (hb : Binds Y.K fd ps []) (hx : Passes (L2.CX Y.prog Y.w) Y E)
    (I : Inv Y pins σ H s) (r : Vals vs us) (h : sp vs H Q E) : wpAny (model Y.prog Y.w) Y.A (call (.ref f) us) (EP Y pins σ Q) Y.xe s := by
  have l1 := F.len _ _ _ _ h
  have l2 := r.length
  have b := hb s us I.kIn (by simp; omega)
  rw [List.append_nil] at b
  have c := F.run Y.A Y.stack s H ⟨us, []⟩ us vs Q E hr hg I.env0 b r h
  refine wpAny_call (codeAny_mono c fun r s' hq => ?_)
  match r, hq with
  | .error e, hq => exact hx pins σ H s e s' I hq
  | .ok (.ret u), hq => exact I.after hq
  | .ok .next, hq => exact False.elim hq
  | .ok .brk, hq => exact False.elim hq
  | .ok .cont, hq => exact False.elim hq
theorem pe_g {x : Str} {p pos : Pos} {e : Expr} {es : List Expr} {t : TA} (F : FnG Y.prog Y.w Y.K Y.mg Y.base k f fd ps sp) (hr : Room k Y.A) (hgu : Y.A.guards = some []) (hg : Gl Y x) (hm : Y.mg x = some (.ref f)) (hk : PySem.W.keepIn Y.K (.ref f) = true) (hb : Binds Y.K fd ps []) (hx : Passes (L2.CX Y.prog Y.w) Y E)
    (ha : PA Y (e :: es) t) (hdb : (x == ("__debug__" : Str)) = false) (he : starEach (e :: es) Y.env = (false, eval e Y.env) :: starEach es Y.env) (hpl : (backTo pos (starEach es Y.env)).any (·.1) = false) :
    PE Y (.Call (.Name x p) (e :: es) [] pos) (fun σ H Q => t σ H fun vs H1 => sp vs H1 Q E) := by
  refine ⟨fun pins s σ H Q I h => wpAny_Call_Name_kw (ld_glob I hg hm ?_ hdb)⟩
  refine PySem.W.callWith_K (h₀ := Y.base) I.ok.mod.kin hk ?_ he hpl
  refine thn (ha.run pos pins s σ H _ I h) fun us s1 q => ?_
  obtain ⟨vs, H1, I1, r, q⟩ := q
  exact ⟨I1.kIn, run_g F hr hgu hb hx I1 r q⟩
theorem pe_g0 {x : Str} {p pos : Pos} (F : FnG Y.prog Y.w Y.K Y.mg Y.base k f fd ps sp) (hr : Room k Y.A) (hgu : Y.A.guards = some []) (hg : Gl Y x) (hm : Y.mg x = some (.ref f)) (hk : PySem.W.keepIn Y.K (.ref f) = true) (hb : Binds Y.K fd ps []) (hx : Passes (L2.CX Y.prog Y.w) Y E)
    (hdb : (x == ("__debug__" : Str)) = false) : PE Y (.Call (.Name x p) [] [] pos) (fun σ H Q => sp [] H Q E) := by
  refine ⟨fun pins s σ H Q I h => wpAny_Call_Name_kw (ld_glob I hg hm ?_ hdb)⟩
  exact PySem.W.callWith_K0 I.kIn hk (run_g (us := []) F hr hgu hb hx I .nil h)
end

/-! ### what is known of the program -/
structure Info where
  fns : String → Option Nat
  con : Cons
  exs : String → Bool
def bltNames : List String := ["len", "tuple", "list", "sum", "all", "any", "abs", "max", "min", "repr", "int", "bool", "str", "isinstance", "range", "zip", "enumerate", "sorted", "set", "dict"]
/-- an exception of the text's own class, made of a text -/
def xr (mg : Str → Option Value) : XR := fun c _ cls dx _ => ∃ C, mg (Str.ofString c) = some (.ref C) ∧ cls = .ref C ∧ dx = none
structure GOk (Γ : Info) (Φ : Calls) (X : XR) (P : Program) (w : World) (K : PySem.W.Frag) (mg : Str → Option Value) (base : Heap) (k : Nat) : Prop where
  fn : ∀ (f : String) (n : Nat), Γ.fns f = some n → ∃ (a : Addr) (fd : FuncData) (ps : List Str), ps.length = n ∧ FnG P w K mg base k a fd ps (spF K X (Φ f)) ∧ mg (Str.ofString f) = some (.ref a) ∧ PySem.W.keepIn K (.ref a) = true ∧ Binds K fd ps []
  con : ∀ (x : String) (p : PyData), Γ.con x = some p → ∃ (u : Value) (v : V), mg (Str.ofString x) = some u ∧ RelV v u ∧ ∀ H, Dq K H v p
  free : ∀ x ∈ bltNames, mg (Str.ofString x) = none
  exs : ∀ c, Γ.exs c = true → ∃ C, mg (Str.ofString c) = some (.ref C) ∧ PySem.W.excIn K C [.type "ValueError", .type "Exception", .type "BaseException", .type "object"] "ValueError.__new__" = true ∧ PySem.W.keepIn K (.ref C) = true ∧
    PySem.W.subIn K (.ref C) (.type "BaseException") = some true ∧ PySem.W.typeIn K (.ref C) = some (.type "type")
structure XOk (Γ : Info) (Φ : Calls) (X : XR) (k : Nat) (Y : Cx) (E : XK) : Prop where
  g : GOk Γ Φ X Y.prog Y.w Y.K Y.mg Y.base k
  calm : Y.calm = true
  nd : Y.N.Nodup
  room : Room (k + 1) Y.A
  gu : Y.A.guards = some []
  pass : Passes (L2.CX Y.prog Y.w) Y E
theorem XOk.roomy {Γ : Info} {Φ : Calls} {X : XR} {k : Nat} {Y : Cx} {E : XK} (h : XOk Γ Φ X k Y E) : Roomy Y.A := ⟨by have := h.room.un; omega, h.gu⟩
theorem XOk.room0 {Γ : Info} {Φ : Calls} {X : XR} {k : Nat} {Y : Cx} {E : XK} (h : XOk Γ Φ X k Y E) : Room k Y.A := h.room.mono (Nat.le_succ k)
abbrev noE : XK := fun _ _ _ => False
theorem XOk.blk {Γ : Info} {Φ : Calls} {X : XR} {k : Nat} {Y : Cx} {E : XK} (h : XOk Γ Φ X k Y E) (s : Shared) (H : Hp) (scope : Scope) (cenv : PySem.Env) (fp : List Addr) : XOk Γ Φ X k (Y.blk s H scope cenv fp) noE :=
  ⟨h.g, h.calm, h.nd, h.room, h.gu, fun _ _ _ _ _ _ _ c => by
    obtain ⟨_, _, _, _, _, _, _, _, _, _, _, _, z⟩ := c
    exact z.elim⟩

/-! ### the check -/
def visOk (sc : Scope) (x : Str) : Bool := (match sc.names.lookup x with
  | some .local => true
  | some .cell => true
  | some .free => true
  | _ => false) && (!(x == ("__debug__" : Str)) && !(x == ("__classdict__" : Str)))
def gloOk (sc : Scope) (x : Str) (n : String) : Bool := decide (x = Str.ofString n) && ((match sc.names.lookup x with
  | some .globalImplicit => true
  | _ => false) && (!(x == ("__debug__" : Str)) && !(x == ("__name__" : Str))))
def cstOk : PyData → Const → Bool
  | .none, .none => true
  | .bool b, .bool c => b == c
  | .int i, .int j => i == j
  | .str x, .str y => decide (x = y)
  | _, _ => false
def ownN (N : List Str) (own : List Nat) : List (Str × Nat) := own.map fun i => (N.getD i Str.empty, i)
def noSlice : Expr → Bool
  | .Slice _ _ _ _ => false
  | _ => true
def noSet : Expr → Bool
  | .Set _ _ _ => false
  | _ => true
section
variable (Γ : Info) (N : List Str)
mutual
def E.chk : E → Scope → (Str → Bool) → Expr → Bool
  | .var i, sc, _, .Name x _ => decide (N[i]? = some x) && visOk sc x
  | .cst p, _, _, .Constant c _ _ => cstOk p c
  | .glo n, sc, _, .Name x _ => (Γ.con n).isSome && gloOk sc x n
  | .tup es, sc, fb, .Tuple xs _ _ => decide (xs.length ≤ 1000) && es.chk sc fb xs
  | .lst es, sc, fb, .List xs _ => decide (xs.length ≤ 1000) && es.chk sc fb xs
  | .nref es, sc, fb, .List xs _ => decide (xs.length ≤ 1000) && es.chk sc fb xs
  | .bin o a b, sc, fb, .BinOp x op y _ => decide (op = o.ast) && (a.chk sc fb x && b.chk sc fb y)
  | .neg a, sc, fb, .UnaryOp .USub x _ => a.chk sc fb x
  | .not a, sc, fb, .UnaryOp .Not x _ => a.chk sc fb x
  | .cmp c a b, sc, fb, .Compare x [op] [y] _ => decide (op = c.ast) && (noSet y && (a.chk sc fb x && b.chk sc fb y))
  | .chn c c' a b d, sc, fb, .Compare x [op, op'] [y, z] _ => decide (op = c.ast) && (decide (op' = c'.ast) && (noSet z && (a.chk sc fb x && (b.chk sc fb y && d.chk sc fb z))))
  | .and a b, sc, fb, .BoolOp .And (x :: y :: r) pos => a.chk sc fb x && (match r with
    | [] => b.chk sc fb y
    | _ => b.chk sc fb (.BoolOp .And (y :: r) pos))
  | .or a b, sc, fb, .BoolOp .Or (x :: y :: r) pos => a.chk sc fb x && (match r with
    | [] => b.chk sc fb y
    | _ => b.chk sc fb (.BoolOp .Or (y :: r) pos))
  | .ife t a b, sc, fb, .IfExp u x y _ => t.chk sc fb u && (a.chk sc fb x && b.chk sc fb y)
  | .ix a i, sc, fb, .Subscript x y _ => noSlice y && (a.chk sc fb x && i.chk sc fb y)
  | .cut a lo hi, sc, fb, .Subscript x (.Slice l h none _) _ => a.chk sc fb x && (lo.chk sc fb l && hi.chk sc fb h)
  | .call f es, sc, fb, .Call (.Name x _) xs [] _ => (Γ.fns f).isSome && (gloOk sc x f && es.chk sc fb xs)
  | .blt f es, sc, fb, .Call (.Name x _) xs [] _ => !xs.isEmpty && (gloOk sc x f.name && es.chk sc fb xs)
  | .isi a t, sc, fb, .Call (.Name x _) [y, .Name z _] [] _ => gloOk sc x "isinstance" && (gloOk sc z t.name && (plainE y && a.chk sc fb y))
  | .lc own g, sc, fb, .ListComp elt gs scope _ => decide (own.Nodup) && (blkC N sc scope (ownN N own) && g.chk0 own sc fb scope elt gs)
  | _, _, _, _ => false
def Es.chk : Es → Scope → (Str → Bool) → List Expr → Bool
  | .nil, _, _, [] => true
  | .cons e es, sc, fb, x :: xs => plainE x && (e.chk sc fb x && es.chk sc fb xs)
  | _, _, _, _ => false
def Oe.chk : Oe → Scope → (Str → Bool) → Option Expr → Bool
  | .no, _, _, none => true
  | .yes e, sc, fb, some x => e.chk sc fb x
  | _, _, _, _ => false
def Oe.chkL : Oe → Scope → (Str → Bool) → List Expr → Bool
  | .no, _, _, [] => true
  | .yes e, sc, fb, [x] => e.chk sc fb x
  | _, _, _, _ => false
def It.chk : It → Scope → (Str → Bool) → Expr → Expr → Bool
  | .seq e, sc, fb, _, x => noSet x && e.chk sc fb x
  | .rng1 a, sc, fb, _, .Call (.Name n _) [x] [] _ => gloOk sc n "range" && (plainE x && a.chk sc fb x)
  | .rng2 a b, sc, fb, _, .Call (.Name n _) [x, y] [] _ => gloOk sc n "range" && (plainE x && (plainE y && (a.chk sc fb x && b.chk sc fb y)))
  | .zip a b, sc, fb, .Tuple _ _ _, .Call (.Name n _) [x, y] [] _ => gloOk sc n "zip" && (plainE x && (plainE y && (a.chk sc fb x && b.chk sc fb y)))
  | .enum a, sc, fb, .Tuple _ _ _, .Call (.Name n _) [x] [] _ => gloOk sc n "enumerate" && (plainE x && a.chk sc fb x)
  | _, _, _, _, _ => false
/-- the first clause: its source is asked outside, all else within -/
def G.chk0 : G → List Nat → Scope → (Str → Bool) → Scope → Expr → List Comprehension → Bool
  | .gen it t c g, own, sc, fb, scope, elt, [⟨tg, iter, ifs, 0⟩] => it.chk sc fb tg iter && (t.chk N (relS scope sc) (fun x => scope.names.lookup x == some .cell) tg && (t.slots.all (own.contains ·) &&
      (c.chkL (relS scope sc) (fun x => scope.names.lookup x == some .cell) ifs && g.chkF (relS scope sc) (fun x => scope.names.lookup x == some .cell) elt)))
  | _, _, _, _, _, _, _ => false
def G.chk1 : G → List Nat → Scope → (Str → Bool) → Expr → Expr → Expr → List Expr → Bool
  | .gen it t c g, own, sc, fb, elt, tg, iter, ifs => it.chk sc fb tg iter && (t.chk N sc fb tg && (t.slots.all (own.contains ·) && (c.chkL sc fb ifs && g.chkF sc fb elt)))
  | _, _, _, _, _, _, _, _ => false
def G.chkF : G → Scope → (Str → Bool) → Expr → Bool
  | .fin e, sc, fb, elt => e.chk sc fb elt
  | _, _, _, _ => false
end
end
end Fb

set_option Elab.async false
set_option linter.all false
set_option maxRecDepth 100000
set_option maxHeartbeats 2000000
/-! readings of each form -/
namespace Fb
open PySem PySem.Spec PyProof.Rows L2
section
variable {K : PySem.W.Frag} {X : XR} {E : XK} {w0 w : Wo} {H0 H : Hp} {st : Sto} {env : Env} {σ : L2.St} {Q : VK} {β : Type}
theorem EnvOk.un (h : EnvOk K w0 H0 env w σ H) (vs : List Nat) : EnvOk K w0 H0 (wipeE env vs) w σ H := by
  have at_ : ∀ (i : Nat) (y : Sl), y ≠ .un → (wipeE env vs)[i]? = some y → env[i]? = some y := fun i y hy q => by
    rw [wipeE_get] at q
    split at q
    · cases q; exact absurd rfl hy
    · exact q
  exact ⟨h.ext, by rw [wipeE_length]; exact h.len, fun i x q => h.val i x (at_ i _ (fun z => by cases z) q), fun i ps q => h.own i ps (at_ i _ (fun z => by cases z) q), fun i j ps qs a q1 q2 q3 q4 => h.apart i j ps qs a (at_ i _ (fun z => by cases z) q1) (at_ j _ (fun z => by cases z) q2) q3 q4⟩
theorem one_read {ma : Env → M D} {f : PyData → M β} {k : β → Sto → Wo → Hp → Prop} {R : V → Hp → Prop} (hE : EnvOk K w0 H0 env w σ H) (hW : Wd K st w H) (h : outX K X E w H (M.bind (ma env) (fun x => need x f) st) k)
    (g : ∀ p st1 w1 H1 x, Ext w H w1 H1 → EnvOk K w0 H0 env w1 σ H1 → Wd K st1 w1 H1 → Dq K (hide w1.B H1) x p → outX K X E w1 H1 (f p st1) k → R x H1) : tE K X w0 H0 E ma σ H R :=
  tE_go hE hW h fun x st1 w1 H1 v e hE1 hW1 r q => by
    obtain ⟨p, rfl, q⟩ := outX_need q
    exact g p st1 w1 H1 v e hE1 hW1 r q
theorem two_read {ma mb : Env → M D} {f : PyData → PyData → M β} {k : β → Sto → Wo → Hp → Prop} {R : V → V → Hp → Prop} (hE : EnvOk K w0 H0 env w σ H) (hW : Wd K st w H)
    (h : outX K X E w H (M.bind (ma env) (fun x => M.bind (mb env) fun y => need x fun p => need y fun q => f p q) st) k)
    (g : ∀ p q st1 w1 H1 x y, Ext w H w1 H1 → EnvOk K w0 H0 env w1 σ H1 → Wd K st1 w1 H1 → Dq K (hide w1.B H1) x p → Dq K (hide w1.B H1) y q → outX K X E w1 H1 (f p q st1) k → R x y H1) :
    tE K X w0 H0 E ma σ H fun x H1 => tE K X w0 H0 E mb σ H1 fun y H2 => R x y H2 :=
  tE_go hE hW h fun x st1 w1 H1 v e hE1 hW1 r q => tE_go hE1 hW1 q fun y st2 w2 H2 u e2 hE2 hW2 r2 q => by
    obtain ⟨p, hp, q2⟩ := outX_need q
    obtain ⟨p2, hp2, q3⟩ := outX_need q2
    subst hp hp2
    exact g p p2 st2 w2 H2 v u (e.trans e2) hE2 hW2 (dp_mono (e2.hx hW1).hid r) r2 q3
/-- what is wanted at the end of an expression -/
abbrev fin (K : PySem.W.Frag) (Q : VK) : D → Sto → Wo → Hp → Prop := fun x _ w' H' => ∀ v, Rep K w' H' x v → Q v H'
theorem tup_read {m : Env → M (List D)} (hE : EnvOk K w0 H0 env w σ H) (hW : Wd K st w H) (hl : ∀ s s' xs, m env s = .ok xs s' → xs.length ≤ 1000) (h : outX K X E w H (M.bind (m env) (fun xs => M.lift ((datas xs).map tup)) st) (fin K Q)) : tTup (tA K X w0 H0 E m) σ H Q := by
  cases q : m env st with
  | ok xs st1 =>
    have hx := hl _ _ _ q
    unfold M.bind at h
    rw [q] at h
    refine ⟨w, st, env, hE, hW, ?_⟩
    rw [q]
    refine fun w1 H1 e1 d1 vs r => ⟨?_, fun p hp => ?_⟩
    · rw [reps_len r, sizeLine_eq]; omega
    · obtain ⟨a, ea, h⟩ := outX_lift (outX_mono e1 h)
      obtain ⟨ps, e2, rfl⟩ := Option.map_eq_some_iff.mp ea
      exact gives_tup d1.dom (outX_gives d1 h) (dpAll_of r e2) hp
  | exc c p st1 =>
    unfold M.bind at h
    rw [q] at h
    exact ⟨w, st, env, hE, hW, by rw [q]; exact h⟩
  | bad =>
    unfold M.bind at h
    rw [q] at h
    exact h.elim
theorem lst_read {m : Env → M (List D)} (hE : EnvOk K w0 H0 env w σ H) (hW : Wd K st w H) (hl : ∀ s s' xs, m env s = .ok xs s' → xs.length ≤ 1000) (h : outX K X E w H (M.bind (m env) (fun xs => M.lift ((datas xs).map lst)) st) (fin K Q)) : tLst (tA K X w0 H0 E m) σ H Q := by
  cases q : m env st with
  | ok xs st1 =>
    have hx := hl _ _ _ q
    unfold M.bind at h
    rw [q] at h
    refine ⟨w, st, env, hE, hW, ?_⟩
    rw [q]
    refine fun w1 H1 e1 d1 vs r => ⟨?_, fun p hp => ?_⟩
    · rw [reps_len r, sizeLine_eq]; omega
    · obtain ⟨a, ea, h⟩ := outX_lift (outX_mono e1 h)
      obtain ⟨ps, e2, rfl⟩ := Option.map_eq_some_iff.mp ea
      exact gives_lst d1.dom (outX_gives d1 h) (dpAll_of r e2) hp
  | exc c p st1 =>
    unfold M.bind at h
    rw [q] at h
    exact ⟨w, st, env, hE, hW, by rw [q]; exact h⟩
  | bad =>
    unfold M.bind at h
    rw [q] at h
    exact h.elim
/-- a new object of the store -/
theorem ref_new {xs : List D} {vs : List V} {p : Addr} (d : Wd K st w H) (r : Reps K w H xs vs) (hp : H p = none) :
    Ext w H ⟨w.μ ++ [p], fun a => w.B a ∨ a = p⟩ (upd H p (.lst vs)) ∧ Wd K (st ++ [.lst xs]) ⟨w.μ ++ [p], fun a => w.B a ∨ a = p⟩ (upd H p (.lst vs)) := by
  have hn : p ∉ w.μ := fun h => d.dom p (d.sub p h) hp
  have e : Ext w H ⟨w.μ ++ [p], fun a => w.B a ∨ a = p⟩ (upd H p (.lst vs)) := by
    refine ⟨⟨[p], rfl, fun a h => by simp at h; rw [h]; exact hp⟩, fun a o h _ => by rw [upd_ne (ne_of_none h hp)]; exact h, fun a h => ?_, fun a h => .inl h, fun a h => ?_⟩
    · by_cases z : a = p
      · rw [z, upd_same]; simp
      · rw [upd_ne z]; exact h
    · rcases h with h | h
      · exact .inl h
      · exact .inr (h ▸ hp)
  have hx := e.hx d
  refine ⟨e, ⟨?_, by simp [d.len], fun a h => ?_, fun a h => ?_, fun n o h => ?_⟩⟩
  · show (w.μ ++ [p]).Nodup
    rw [List.nodup_append]
    exact ⟨d.nd, by simp, fun a ha b hb z => hn (by simp at hb; rw [← hb, ← z]; exact ha)⟩
  · rcases List.mem_append.mp h with h | h
    · exact .inl (d.sub a h)
    · exact .inr (by simpa using h)
  · rcases h with h | h
    · by_cases z : a = p
      · rw [z, upd_same]; simp
      · rw [upd_ne z]; exact d.dom a h
    · rw [h, upd_same]; simp
  · by_cases hl : n < st.length
    · rw [List.getElem?_append_left hl] at h
      obtain ⟨a, h1, h2⟩ := d.obs n o h
      have ne : a ≠ p := fun z => hn (z ▸ List.mem_of_getElem? h1)
      refine ⟨a, by show (w.μ ++ [p])[n]? = some a; rw [List.getElem?_append_left (by rw [d.len]; exact hl)]; exact h1, ?_⟩
      cases o with
      | lst ys =>
        obtain ⟨us, e1, r1⟩ := h2
        exact ⟨us, by rw [upd_ne ne]; exact e1, reps_mono hx r1⟩
    · have hn2 : n = st.length := by
        have := (List.getElem?_eq_some_iff.mp h).1
        simp at this
        omega
      subst hn2
      rw [List.getElem?_append_right (Nat.le_refl _)] at h
      simp at h
      subst h
      refine ⟨p, by show (w.μ ++ [p])[st.length]? = some p; rw [← d.len]; simp, vs, upd_same, reps_mono hx r⟩
theorem nref_read {m : Env → M (List D)} (hE : EnvOk K w0 H0 env w σ H) (hW : Wd K st w H) (hl : ∀ s s' xs, m env s = .ok xs s' → xs.length ≤ 1000) (h : outX K X E w H (M.bind (m env) (fun xs s => .ok (.ref s.length) (s ++ [.lst xs])) st) (fin K Q)) : tLst (tA K X w0 H0 E m) σ H Q := by
  cases q : m env st with
  | ok xs st1 =>
    have hx := hl _ _ _ q
    unfold M.bind at h
    rw [q] at h
    refine ⟨w, st, env, hE, hW, ?_⟩
    rw [q]
    refine fun w1 H1 e1 d1 vs r => ⟨?_, fun p hp => ?_⟩
    · rw [reps_len r, sizeLine_eq]; omega
    · obtain ⟨e2, d2⟩ := ref_new d1 r hp
      exact h _ _ (e1.trans e2) d2 _ ⟨p, by show (w1.μ ++ [p])[st1.length]? = some p; rw [← d1.len]; simp, rfl⟩
  | exc c p st1 =>
    unfold M.bind at h
    rw [q] at h
    exact ⟨w, st, env, hE, hW, by rw [q]; exact h⟩
  | bad =>
    unfold M.bind at h
    rw [q] at h
    exact h.elim
theorem tru_of {p : PyData} {v : V} {b : Bool} {B : Addr → Prop} (h : Dq K (hide B H) v p) (e : truth p = some b) : TruV K v H b := by
  cases h with
  | non => cases e; rfl
  | bl b => cases e; rfl
  | int i => cases e; rfl
  | str x => cases e
  | lst h1 h2 =>
    cases e
    refine .inl ⟨_, .inl (.inl (hide_sub _ _ h1)), ?_⟩
    cases h2 <;> rfl
  | tup h1 h2 =>
    cases e
    refine .inr (.inl ⟨_, seqT_mono hide_sub h1, ?_⟩)
    cases h2 <;> rfl
theorem truth_read {m : Env → M D} {k : Bool → Hp → Prop} (hE : EnvOk K w0 H0 env w σ H) (hW : Wd K st w H) (h : outX K X E w H (M.bind (m env) (fun x => need x fun p => M.lift (truth p)) st) fun b _ _ H' => k b H') :
    tE K X w0 H0 E m σ H fun x H' => ∃ b, TruV K x H' b ∧ k b H' :=
  one_read hE hW h fun p st1 w1 H1 x e hE1 hW1 r q => by
    obtain ⟨b, e1, q⟩ := outX_lift q
    exact ⟨b, tru_of r e1, outX_now hW1 q⟩
/-- [e for t in it if c] -/
theorem lc_read {E' : XK} {im : Env → M (List D)} {t : T} {cm : Env → M Bool} {em : Env → M D} {own : List Nat} (hs : ∀ i ∈ t.slots, i ∈ own) (hE : EnvOk K w0 H0 env w σ H) (hW : Wd K st w H)
    (h : outX K X E w H (M.calm (M.bind (M.bind (im (wipeE env own)) fun xs => flatM (fun x => M.bind (M.lift (t.bind x (wipeE env own))) fun env' => M.bind (cm env') fun k => if k = true then M.bind (em env') (fun x => need x fun p => M.pure [p]) else M.pure []) xs)
      fun ps => if fitsLine ps.length then M.pure (lst ps) else M.bad) st) (fin K Q)) :
    tLc (tI K X w0 H0 E' im) (tG K w0 H0 t) (tT K X w0 H0 noE cm) (tE K X w0 H0 noE em) own σ H Q := by
  obtain ⟨a, stF, e0, fk⟩ := calm_ok h
  obtain ⟨ps, s2, e1, e2⟩ := bind_ok e0
  obtain ⟨items, s1, e3, e4⟩ := bind_ok e1
  split at e2
  · rename_i hz
    cases e2
    have hz := fits_le hz
    refine ⟨w, st, wipeE env own, hE.un own, hW, ?_⟩
    rw [e3]
    intro w1 H1 x1 d1 J wk Dl hD
    -- the new list at Dl, on which no datum leans
    refine ⟨fun i m H2 => m = items.length - i ∧ i ≤ items.length ∧ ∃ (w2 : Wo) (st2 : Sto) (done zs : List PyData) (acc : List V), Ext w1 H1 w2 H2 ∧ Wd K st2 w2 H2 ∧ w2.B Dl ∧ Dl ∉ w2.μ ∧ H2 Dl = some (.lst acc) ∧ DqAll K (hide w2.B H2) acc done ∧
      flatM (fun x => M.bind (M.lift (t.bind x (wipeE env own))) fun env' => M.bind (cm env') fun k => if k = true then M.bind (em env') (fun x => need x fun p => M.pure [p]) else M.pure []) (items.drop i) st2 = .ok zs stF ∧ done ++ zs = ps,
      ⟨items.length, rfl, Nat.zero_le _, w1.hold Dl, s1, [], ps, [], Ext.hold hD, d1.hold hD, .inr rfl, fun z => d1.dom _ (d1.sub _ z) hD, upd_same, .nil, e4, rfl⟩, ?_⟩
    rintro i m H2 ⟨rfl, hi, w2, st2, done, zs, acc, x2, d2, hB, hμ, hacc, hdq, hfl, hps⟩
    have hx12 : HX w1 H1 w2 H2 := x2.hx d1
    by_cases hlt : i < items.length
    · have hit : items[i]? = some items[i] := List.getElem?_eq_getElem hlt
      obtain ⟨go, yd⟩ := wk.go w2 H2 i items[i] hx12 d2.dom hit
      rw [List.drop_eq_getElem_cons hlt] at hfl
      obtain ⟨ys, s3, f1, f2⟩ := bind_ok hfl
      obtain ⟨zs2, s4, f3, f4⟩ := bind_ok f2
      cases f4
      obtain ⟨env2, s5, g1, g2⟩ := bind_ok f1
      obtain ⟨g1', es5⟩ := lift_ok g1
      rw [es5] at g2
      obtain ⟨kb, s6, g3, g4⟩ := bind_ok g2
      refine .inr ⟨go, fun H' => ∃ (w2 : Wo) (st2 : Sto) (done zs : List PyData) (acc : List V), Ext w1 H1 w2 H' ∧ Wd K st2 w2 H' ∧ w2.B Dl ∧ Dl ∉ w2.μ ∧ H' Dl = some (.lst acc) ∧ DqAll K (hide w2.B H') acc done ∧
        flatM (fun x => M.bind (M.lift (t.bind x (wipeE env own))) fun env' => M.bind (cm env') fun k => if k = true then M.bind (em env') (fun x => need x fun p => M.pure [p]) else M.pure []) (items.drop (i + 1)) st2 = .ok zs stF ∧ done ++ zs = ps,
        fun H' hn => ⟨items.length - (i + 1), by omega, rfl, hlt, hn⟩, fun v H3 y => ?_⟩
      obtain ⟨k3, r3⟩ := yd v H3 y
      obtain ⟨x3, d3⟩ := Ext.grown d2 k3
      have x13 := x2.trans x3
      have hE3 : EnvOk K w0 H0 (wipeE env own) w2 (wipe σ own) H3 := ((hE.go hW x1).go d1 x13).wiped own
      refine ⟨w2, st2, wipeE env own, items[i], env2, hE3, d3, r3, g1', fun σ' hE4 hl4 ha4 => ⟨?_, ?_⟩⟩
      · refine wipe_eq (by rw [hl4, wipe_length]) fun j hj => ?_
        rw [ha4 j fun z => hj (hs j z), wipe_get]
        simp [hj]
      · refine tT_ok hE4 d3 g3 fun w4 H4 x4 d4 => ?_
        have hD3 : H3 Dl = some (.lst acc) := k3 _ _ hacc
        have hD4 : H4 Dl = some (.lst acc) := x4.keep _ _ hD3 hμ
        have hμ4 : Dl ∉ w4.μ := x4.notIn (by rw [hD3]; simp) hμ
        have q4 : DqAll K (hide w4.B H4) acc done := dpAll_mono (x4.hx d3).hid (dpAll_mono (x3.hx d2).hid hdq)
        cases kb with
        | true =>
          rw [if_pos rfl]
          rw [if_pos rfl] at g4
          obtain ⟨xv, s7, g5, g6⟩ := bind_ok g4
          obtain ⟨p, rfl, g6⟩ := need_ok g6
          cases g6
          refine tE_ok (hE4.go d3 x4) d4 g5 fun w5 H5 u x5 d5 r5 => ⟨acc, x5.keep _ _ hD4 hμ4, ?_, ?_⟩
          · have hl := hdq.length
            have : ps.length = done.length + ([p] ++ zs2).length := by rw [← hps, List.length_append]
            simp at this
            omega
          · have hB5 : w5.B Dl := x5.up _ (x4.up _ hB)
            have hμ5 : Dl ∉ w5.μ := x5.notIn (by rw [hD4]; simp) hμ4
            refine ⟨w5, _, done ++ [p], zs2, acc ++ [u], ((x13.trans x4).trans x5).poke hD, d5.poke hB5 hμ5, hB5, hμ5, upd_same, ?_, f3, ?_⟩
            · rw [hide_poke hB5]
              exact (dpAll_mono (x5.hx d4).hid q4).append (.cons r5 .nil)
            · rw [List.append_assoc]
              exact hps
        | false =>
          rw [if_neg Bool.false_ne_true]
          rw [if_neg Bool.false_ne_true] at g4
          cases g4
          exact ⟨w4, _, done, zs2, acc, x13.trans x4, d4, x4.up _ hB, hμ4, hD4, q4, f3, hps⟩
    · have hi' : i = items.length := by omega
      subst hi'
      rw [List.drop_length] at hfl
      cases hfl
      rw [List.append_nil] at hps
      subst hps
      refine .inl ⟨wk.stop w2 H2 hx12, ?_⟩
      exact fk (w2.free Dl) H2 (x1.trans (x2.free d1 hD)) (d2.free hμ) _ (.lst (hide_some.mpr ⟨fun z => z.2 rfl, hacc⟩) (dpAll_mono hx_free.hid hdq))
  · cases e2
end
end Fb

set_option Elab.async false
set_option linter.all false
set_option maxRecDepth 100000
set_option maxHeartbeats 4000000
/-! what the check is worth: expressions -/
namespace Fb
open PySem PySem.Spec PyProof.Rows L2

/-- where one stands -/
structure At (Γ : Info) (Φ : Calls) (X : XR) (k : Nat) (N : List Str) (sc : Scope) (fb : Str → Bool) (Y : Cx) (E : XK) : Prop where
  ok : XOk Γ Φ X k Y E
  n : Y.N = N
  s : Y.env.scope = sc
  f : Y.fn = fb
theorem vis_of {Y : Cx} {sc : Scope} {x : Str} (hs : Y.env.scope = sc) (h : visOk sc x = true) : Vis Y.env.scope x ∧ (x == ("__debug__" : Str)) = false ∧ (x == ("__classdict__" : Str)) = false := by
  subst hs
  unfold visOk at h
  simp only [Bool.and_eq_true, Bool.not_eq_true'] at h
  obtain ⟨h1, h2, h3⟩ := h
  refine ⟨?_, h2, h3⟩
  split at h1
  · rename_i q; exact .inl q
  · rename_i q; exact .inr (.inl q)
  · rename_i q; exact .inr (.inr q)
  · cases h1
theorem glo_of {Y : Cx} {sc : Scope} {x : Str} {n : String} (hs : Y.env.scope = sc) (h : gloOk sc x n = true) : x = Str.ofString n ∧ Gl Y x ∧ (x == ("__debug__" : Str)) = false ∧ x ≠ ("__name__" : Str) := by
  subst hs
  unfold gloOk at h
  simp only [Bool.and_eq_true, Bool.not_eq_true', decide_eq_true_eq] at h
  obtain ⟨h1, h2, h3, h4⟩ := h
  refine ⟨h1, ?_, h3, fun z => by simp [z] at h4⟩
  split at h2
  · rename_i q; exact q
  · cases h2
theorem boot_bl (f : Bl) : bootBuiltins (Str.ofString f.name) = some f.val := by
  have h : ∀ f ∈ [Bl.len, .tuple, .list, .sum, .all, .any, .abs, .max2, .min2, .maxL, .minL, .repr, .int], bootBuiltins (Str.ofString f.name) = some f.val := by decide +kernel
  exact h f (by cases f <;> decide)
theorem boot_ty (t : Ty) : bootBuiltins (Str.ofString t.name) = some (.type t.name) := by cases t <;> decide +kernel
theorem boot_isi : bootBuiltins (Str.ofString "isinstance") = some (.builtin "isinstance") := by decide +kernel
theorem free_bl (f : Bl) : f.name ∈ bltNames := by cases f <;> decide
theorem free_ty (t : Ty) : t.name ∈ bltNames := by cases t <;> decide
def Es.len : Es → Nat
  | .nil => 0
  | .cons _ es => es.len + 1
theorem Es.ev_len {Φ : Calls} {C : Cons} : ∀ (es : Es) (env : Env) (s s' : Sto) (xs : List D), es.ev Φ C env s = .ok xs s' → xs.length = es.len
  | .nil, _, _, _, _, h => by
    simp only [Es.ev] at h
    cases h
    rfl
  | .cons e es, env, s, s', xs, h => by
    simp only [Es.ev] at h
    obtain ⟨a, s1, _, h2⟩ := bind_ok h
    obtain ⟨b, s2, h3, h4⟩ := bind_ok h2
    cases h4
    simp only [List.length_cons, Es.len, Es.ev_len es env _ _ _ h3]
theorem Es.chk_len {Γ : Info} {N : List Str} {sc : Scope} {fb : Str → Bool} : ∀ (es : Es) (xs : List Expr), es.chk Γ N sc fb xs = true → xs.length = es.len ∧ xs.all plainE = true
  | .nil, [], _ => ⟨rfl, rfl⟩
  | .cons e es, x :: xs, h => by
    simp only [Es.chk, Bool.and_eq_true] at h
    obtain ⟨h1, h2⟩ := Es.chk_len es xs h.2.2
    simp only [List.length_cons, Es.len, h1, List.all_cons, h.1, h2, Bool.and_self, and_self]
  | .nil, _ :: _, h => by simp [Es.chk] at h
  | .cons _ _, [], h => by simp [Es.chk] at h
theorem small_es {Γ : Info} {N : List Str} {sc : Scope} {fb : Str → Bool} {Φ : Calls} {C : Cons} {es : Es} {xs : List Expr} (h1 : xs.length ≤ 1000) (h2 : es.chk Γ N sc fb xs = true) (env : Env) : ∀ s s' ys, es.ev Φ C env s = .ok ys s' → ys.length ≤ 1000 := fun s s' ys h => by
  rw [es.ev_len env s s' ys h, ← (es.chk_len xs h2).1]
  exact h1
theorem foldedNo {iter : Expr} {env : PySem.Env} (h : noSet iter = true) (x : Value) : foldedSetIterable iter env x = pure x := by
  cases iter <;> first | exact absurd h Bool.false_ne_true | rfl
theorem marksNo {e : Expr} {op : CmpOp} (h : noSet e = true) : behindInMarks op e = false := by
  cases e <;> first | exact absurd h Bool.false_ne_true | rfl
theorem ixNo {e : Expr} (h : noSlice e = true) : PlainIx e := by
  intro o i
  cases e <;> first | exact absurd h Bool.false_ne_true | rfl
/-- the data's item, the store's, the script's -/
def rIxR (K : PySem.W.Frag) : R2 := fun x y H Q => ∃ (a : Addr) (xs : List V) (i : Int) (v : V), x = .ref a ∧ y = .int i ∧ SqL K H a xs ∧ atI xs i = some v ∧ Q v H
section
variable {Γ : Info} {Φ : Calls} {X : XR} {k : Nat} {N : List Str} {w0 : Wo} {H0 : Hp}
theorem ownN_ix (own : List Nat) : (ownN N own).map (·.2) = own := by
  unfold ownN
  rw [List.map_map]
  exact List.map_id' own
theorem reps_atI {K : PySem.W.Frag} {w : Wo} {H : Hp} {xs : List D} {vs : List V} {i : Int} {x : D} (r : Reps K w H xs vs) (e : atI xs i = some x) : ∃ v, atI vs i = some v ∧ Rep K w H x v := by
  have get : ∀ {xs : List D} {vs : List V} {j : Nat}, Reps K w H xs vs → xs[j]? = some x → ∃ v, vs[j]? = some v ∧ Rep K w H x v := by
    intro xs
    induction xs with
    | nil => intro vs j _ h; simp at h
    | cons a xs ih =>
      intro vs j r h
      cases vs with
      | nil => exact r.elim
      | cons v vs =>
        cases j with
        | zero => simp at h; subst h; exact ⟨v, rfl, r.1⟩
        | succ j =>
          obtain ⟨u, h1, h2⟩ := ih r.2 (by simpa using h)
          exact ⟨u, by simpa using h1, h2⟩
  unfold atI at e ⊢
  rw [reps_len r]
  obtain ⟨j, e1, e2⟩ := Option.bind_eq_some_iff.mp e
  obtain ⟨v, h1, h2⟩ := get r e2
  exact ⟨v, by rw [e1]; exact h1, h2⟩
theorem ix_read {K : PySem.W.Frag} {E : XK} {ma mb : Env → M D} {w : Wo} {H : Hp} {st : Sto} {env : Env} {σ : L2.St} {Q : VK} (hE : EnvOk K w0 H0 env w σ H) (hW : Wd K st w H) (h : outX K X E w H (M.bind (ma env) (fun x => M.bind (mb env) fun y => need y fun q => ixD x q) st) (fin K Q)) :
    tOp (fun x y H Q => rD K (fun p q => match q with
      | .int k => ixP p k
      | _ => none) x y H Q ∨ rIxL K x y H Q) (tE K X w0 H0 E ma) (tE K X w0 H0 E mb) σ H Q :=
  tE_go hE hW h fun x st1 w1 H1 v e hE1 hW1 r q => tE_go hE1 hW1 q fun y st2 w2 H2 u e2 hE2 hW2 r2 q => by
    obtain ⟨p, hp, q9⟩ := outX_need q
    subst hp
    clear q
    have q := q9
    clear q9
    have r := rep_mono (e2.hx hW1) r
    cases p with
    | int i =>
      cases x with
      | d p =>
        obtain ⟨a, e3, q5⟩ := outX_lift q
        obtain ⟨z, e4, ez⟩ := Option.map_eq_some_iff.mp e3
        subst ez
        exact .inl ⟨w2.B, p, .int i, z, hW2.dom, r, r2, e4, outX_gives hW2 q5⟩
      | ref n =>
        unfold ixD at q
        simp only at q
        split at q
        · rename_i xs e3
          obtain ⟨a, h1, vs, h2, h3⟩ := hW2.obs n _ e3
          split at q
          · rename_i z e4
            obtain ⟨b, h4, h5⟩ := r
            rw [h1] at h4
            cases h4
            obtain ⟨c, e5, e6⟩ := reps_atI h3 e4
            cases r2
            exact .inr ⟨a, vs, i, c, h5, rfl, .inl (.inl h2), e5, q w2 H2 Ext.refl hW2 c e6⟩
          · exact q.elim
        · exact q.elim
      | scr ns =>
        obtain ⟨a, e3, q5⟩ := outX_lift q
        obtain ⟨z, e4, ez⟩ := Option.map_eq_some_iff.mp e3
        subst ez
        obtain ⟨b, h4, h5⟩ := r
        cases r2
        refine .inr ⟨b, _, i, .int z, h4, rfl, seqL_mono hide_sub h5, ?_, outX_gives hW2 q5 _ _ (Same.refl _) (.int z)⟩
        unfold atI at e4 ⊢
        rw [List.length_map]
        obtain ⟨j, e5, e6⟩ := Option.bind_eq_some_iff.mp e4
        rw [e5]
        show (ns.map V.int)[j]? = _
        rw [List.getElem?_map, e6]
        rfl
    | _ => exact q.elim
theorem isi_call {Y : Cx} (t : Ty) : CallR Y (.builtin "isinstance") (fun vs H Q => ∃ (B : Addr → Prop) (x : V) (p : PyData), vs = [x, .ty t.name] ∧ Dq Y.K (hide B H) x p ∧ Q (.bl (t.is p)) H) := by
  intro pins s σ H vs us Q I r h
  obtain ⟨B, x, p, rfl, d, q⟩ := h
  obtain ⟨u, u2, rfl, r1, r2⟩ := vals2 r
  cases (show u2 = Value.type t.name from r2)
  exact isi_ok t I r1 d q
theorem blt_call {Y : Cx} {E : XK} (h : XOk Γ Φ X k Y E) (f : Bl) : CallR Y f.val (fun vs H Q => rB Y.K f.run vs H Q ∨ (f = .len ∧ ∃ a ns, vs = [.ref a] ∧ SqL Y.K H a (List.map V.int ns) ∧ Q (.int (ns.length : Nat)) H)) := by
  intro pins s σ H vs us Q I r q
  rcases q with q | ⟨rfl, q⟩
  · exact bl_ok h.roomy h.calm f pins s σ H vs us Q I r q
  · exact len_scr rfl pins s σ H vs us Q I r q
theorem runD_cases (f : Bl) (xs : List D) : (f = .len ∧ ∃ ns, xs = [.scr ns]) ∨ Bl.runD f xs = M.lift (((datas xs).bind f.run).map D.d) := by
  cases xs with
  | nil => exact .inr (by cases f <;> rfl)
  | cons x r =>
    cases x with
    | scr ns =>
      cases r with
      | nil => cases f <;> first | exact .inl ⟨rfl, _, rfl⟩ | exact .inr rfl
      | cons _ _ => exact .inr (by cases f <;> rfl)
    | d p => exact .inr (by cases f <;> rfl)
    | ref n => exact .inr (by cases f <;> rfl)
theorem blt_read {K : PySem.W.Frag} {E : XK} {f : Bl} {w : Wo} {H : Hp} {st : Sto} {Q : VK} {xs : List D} {vs : List V} (hW : Wd K st w H) (r : Reps K w H xs vs) (h : outX K X E w H (f.runD xs st) (fin K Q)) :
    rB K f.run vs H Q ∨ (f = .len ∧ ∃ a ns, vs = [.ref a] ∧ SqL K H a (List.map V.int ns) ∧ Q (.int (ns.length : Nat)) H) := by
  rcases runD_cases f xs with ⟨rfl, ns, rfl⟩ | e0
  · cases vs with
    | nil => exact r.elim
    | cons v vs =>
      cases vs with
      | nil =>
        obtain ⟨⟨a, h1, h2⟩, _⟩ := r
        subst h1
        exact .inr ⟨rfl, a, ns, rfl, seqL_mono hide_sub h2, outX_gives hW h _ _ (Same.refl _) (.int _)⟩
      | cons _ _ => exact r.2.elim
  · rw [e0] at h
    obtain ⟨a, e1, h5⟩ := outX_lift h
    obtain ⟨p, e2, ep⟩ := Option.map_eq_some_iff.mp e1
    subst ep
    obtain ⟨ps, e3, e4⟩ := Option.bind_eq_some_iff.mp e2
    exact .inl ⟨w.B, ps, p, hW.dom, dpAll_of r e3, e4, outX_gives hW h5⟩
theorem callV {Y : Cx} {f : Bl} {x : Str} {p pos : Pos} {e : Expr} {es : List Expr} {t : TA} {r : List V → Hp → VK → Prop} (hc : CallR Y f.val r) (hg : Gl Y x) (hx : x = Str.ofString f.name) (hm : Y.mg x = none) (ha : PA Y (e :: es) t) (hn : x ≠ "__name__") (hdb : (x == ("__debug__" : Str)) = false)
    (he : starEach (e :: es) Y.env = (false, eval e Y.env) :: starEach es Y.env) (hpl : (backTo pos (starEach es Y.env)).any (·.1) = false) : PE Y (.Call (.Name x p) (e :: es) [] pos) (tCB r t) := by
  have hb : bootBuiltins x = some f.val := by rw [hx]; exact boot_bl f
  unfold Bl.val at hc hb
  split at hc
  · rename_i z
    rw [if_pos z] at hb
    exact pe_callTy hc hg hm hb ha hn hdb he hpl
  · rename_i z
    rw [if_neg z] at hb
    exact pe_callB hc hg hm hb ha hn hdb he hpl
end
end Fb

set_option Elab.async false
set_option linter.all false
set_option maxRecDepth 100000
set_option maxHeartbeats 4000000
/-! what the check is worth: expressions, all of them -/
namespace Fb
open PySem PySem.Spec PyProof.Rows L2
theorem PTs.imp {Y : Cx} {e : List Expr} {t t' : TT} (h : PTs Y e t) (i : ∀ σ H Q, t' σ H Q → t σ H Q) : PTs Y e t' := ⟨fun pins s σ H Q I q => h.run pins s σ H Q I (i σ H Q q)⟩
section
variable {K : PySem.W.Frag} {X : XR} {E : XK} {w0 w : Wo} {H0 H : Hp} {st : Sto} {env : Env} {σ : L2.St}
theorem cmp_read {c : Cm} {ma mb : Env → M D} {Q : Bool → Hp → Prop} (hE : EnvOk K w0 H0 env w σ H) (hW : Wd K st w H)
    (h : outX K X E w H (M.bind (ma env) (fun x => M.bind (mb env) fun y => need x fun p => need y fun q => M.lift (c.run p q)) st) fun b _ _ H' => Q b H') :
    tOp (rD K fun p q => (c.run p q).map PyData.bool) (tE K X w0 H0 E ma) (tE K X w0 H0 E mb) σ H fun x H' => ∃ b, x = .bl b ∧ Q b H' :=
  two_read hE hW h fun p q st1 w1 H1 x y e hE1 hW1 rx ry z => by
    obtain ⟨b, e1, z1⟩ := outX_lift z
    refine ⟨w1.B, p, q, .bool b, hW1.dom, rx, ry, congrArg (Option.map PyData.bool) e1, fun v H' k d => ?_⟩
    cases d
    obtain ⟨e2, d2⟩ := Ext.grown (H' := H') hW1 k
    exact ⟨b, rfl, z1 w1 H' e2 d2⟩
theorem cmpV_read {c : Cm} {ma mb : Env → M D} {Q : VK} (hE : EnvOk K w0 H0 env w σ H) (hW : Wd K st w H)
    (h : outX K X E w H (M.bind (ma env) (fun x => M.bind (mb env) fun y => need x fun p => need y fun q => M.lift ((c.run p q).map bl)) st) (fin K Q)) :
    tOp (rD K fun p q => (c.run p q).map PyData.bool) (tE K X w0 H0 E ma) (tE K X w0 H0 E mb) σ H Q :=
  two_read hE hW h fun p q st1 w1 H1 x y e hE1 hW1 rx ry z => by
    obtain ⟨a, e1, z1⟩ := outX_lift z
    obtain ⟨b, e2, eb⟩ := Option.map_eq_some_iff.mp e1
    subst eb
    exact ⟨w1.B, p, q, .bool b, hW1.dom, rx, ry, congrArg (Option.map PyData.bool) e2, outX_gives hW1 z1⟩
theorem bin_read {o : Bo} {ma mb : Env → M D} {Q : VK} (hE : EnvOk K w0 H0 env w σ H) (hW : Wd K st w H)
    (h : outX K X E w H (M.bind (ma env) (fun x => M.bind (mb env) fun y => need x fun p => need y fun q => M.lift ((o.run p q).map D.d)) st) (fin K Q)) :
    tOp (rD K o.run) (tE K X w0 H0 E ma) (tE K X w0 H0 E mb) σ H Q :=
  two_read hE hW h fun p q st1 w1 H1 x y e hE1 hW1 rx ry z => by
    obtain ⟨a, e1, z1⟩ := outX_lift z
    obtain ⟨b, e2, eb⟩ := Option.map_eq_some_iff.mp e1
    subst eb
    exact ⟨w1.B, p, q, b, hW1.dom, rx, ry, e2, outX_gives hW1 z1⟩
theorem chn_read {c c' : Cm} {ma mb mc : Env → M D} {β : Type} {en : Option Bool → M β} {no : M β} {R : VK} {k : β → Sto → Wo → Hp → Prop} (hE : EnvOk K w0 H0 env w σ H) (hW : Wd K st w H)
    (h : outX K X E w H (M.bind (ma env) (fun x => M.bind (mb env) fun y => need x fun p => need y fun q => M.bind (M.lift (c.run p q)) fun kk => if kk = true then M.bind (mc env) fun z => need z fun r => en (c'.run q r) else no) st) k)
    (hn : ∀ st w H, Wd K st w H → outX K X E w H (no st) k → R (.bl false) H)
    (hy : ∀ st w H o, Wd K st w H → outX K X E w H (en o st) k → ∃ b, o = some b ∧ ∀ H', Same H H' → R (.bl b) H') :
    tChain (rD K fun p q => (c.run p q).map PyData.bool) (rD K fun p q => (c'.run p q).map PyData.bool) (tE K X w0 H0 E ma) (tE K X w0 H0 E mb) (tE K X w0 H0 E mc) σ H R :=
  two_read (R := fun x y H2 => rD K (fun p q => (c.run p q).map PyData.bool) x y H2 fun z H3 => ∃ k, z = .bl k ∧
    (if k = true then tE K X w0 H0 E mc σ H3 (fun w' H4 => rD K (fun p q => (c'.run p q).map PyData.bool) y w' H4 R) else R (.bl false) H3)) hE hW h fun p q st1 w1 H1 x y e hE1 hW1 rx ry z => by
    have z := outX_bind z
    obtain ⟨b, e1, z1⟩ := outX_lift z
    refine ⟨w1.B, p, q, .bool b, hW1.dom, rx, ry, congrArg (Option.map PyData.bool) e1, fun v H' kk d => ?_⟩
    cases d
    obtain ⟨e2, d2⟩ := Ext.grown (H' := H') hW1 kk
    have z2 := z1 w1 H' e2 d2
    refine ⟨b, rfl, ?_⟩
    cases b with
    | true =>
      rw [if_pos rfl] at z2 ⊢
      refine one_read (hE1.go hW1 e2) d2 z2 fun r st3 w3 H3 u e3 hE3 hW3 ru z3 => ?_
      obtain ⟨b2, e4, z4⟩ := hy _ _ _ _ hW3 z3
      refine ⟨w3.B, q, r, .bool b2, hW3.dom, dp_mono (e3.hx d2).hid (dp_mono (e2.hx hW1).hid ry), ru, congrArg (Option.map PyData.bool) e4, fun v H4 k4 d4 => ?_⟩
      cases d4
      exact z4 H4 k4
    | false =>
      rw [if_neg Bool.false_ne_true] at z2 ⊢
      exact hn _ _ _ d2 z2
end
theorem list_it {Y : Cx} {tg : Expr} {pins : List (Addr × Obj)} {σ : L2.St} {H1 : Hp} {s1 : Shared} {R : L2.It → Hp → Prop} {a : Addr} {xs : List V} (I1 : Inv Y pins σ H1 s1) (hq : SqL Y.K H1 a xs) (q : R (Itl Y.K a) H1) :
    wpAny (model Y.prog Y.w) Y.A (pyIter (.ref a)) (PIE Y pins σ tg R) Y.xe s1 := by
  obtain ⟨its, rv, p, _⟩ := I1.list hq
  refine wpAny_pyIter_list p.isList ?_
  have hf : H1 s1.heap.objs.size = none := I1.hok.fresh (Nat.le_refl _)
  exact ⟨_, [s1.heap.objs.size], _, _, H1, rfl, I1.kept (t' := s1.toks) fun b o e => Heap.get?_push_of_some _ e, turn_list a _, ⟨_, Heap.get?_push_size _ rfl, rfl, rfl⟩, fun b hb => by
    rw [List.mem_singleton.mp hb]
    exact I1.fpOk (Nat.le_refl _) hf, q⟩
theorem tup_it {Y : Cx} {tg : Expr} {pins : List (Addr × Obj)} {σ : L2.St} {H1 : Hp} {s1 : Shared} {R : L2.It → Hp → Prop} {a : Addr} {xs : List V} (I1 : Inv Y pins σ H1 s1) (hq : SqT Y.K H1 a xs) (q : R (Itt Y.K a) H1) :
    wpAny (model Y.prog Y.w) Y.A (pyIter (.ref a)) (PIE Y pins σ tg R) Y.xe s1 := by
  obtain ⟨its, rv, p, _⟩ := I1.tuple hq
  refine wpAny_pyIter_tuple (show s1.heap.IsTuple a its.toArray from p) ?_
  have hf : H1 s1.heap.objs.size = none := I1.hok.fresh (Nat.le_refl _)
  exact ⟨_, [s1.heap.objs.size], _, _, H1, rfl, I1.kept (t' := s1.toks) fun b o e => Heap.get?_push_of_some _ e, turn_tuple a _, ⟨_, Heap.get?_push_size _ rfl, rfl, rfl⟩, fun b hb => by
    rw [List.mem_singleton.mp hb]
    exact I1.fpOk (Nat.le_refl _) hf, q⟩
theorem pi_seq {Y : Cx} {tg e : Expr} {te : TE} (he : PE Y e te) : PI Y tg e (fun σ H R => te σ H fun x H1 => (∃ a, x = .ref a ∧ (∃ xs, SqL Y.K H1 a xs) ∧ R (Itl Y.K a) H1) ∨ (∃ a, x = .ref a ∧ (∃ xs, SqT Y.K H1 a xs) ∧ R (Itt Y.K a) H1)) := by
  refine ⟨fun pins s σ H R I h => ?_⟩
  refine thn (he.run pins s σ H _ I h) fun v s1 q => ?_
  obtain ⟨x, H1, I1, r1, q1⟩ := q
  rcases q1 with ⟨a, e, ⟨xs, hq⟩, q⟩ | ⟨a, e, ⟨xs, hq⟩, q⟩
  · subst e
    cases r1
    exact list_it I1 hq q
  · subst e
    cases r1
    exact tup_it I1 hq q
section
variable {Γ : Info} {Φ : Calls} {X : XR} {k : Nat} {N : List Str} {w0 : Wo} {H0 : Hp}
theorem itNo {it : Fb.It} {sc : Scope} {fb : Str → Bool} {tg x : Expr} {env : PySem.Env} (h : it.chk Γ N sc fb tg x = true) : ∀ v, foldedSetIterable x env v = pure v := fun v => by
  have hx : noSet x = true := by
    cases it with
    | seq e =>
      unfold It.chk at h
      simp only [Bool.and_eq_true] at h
      exact h.1
    | _ => cases x <;> first | rfl | (cases tg <;> exact absurd h Bool.false_ne_true)
  exact foldedNo hx v
theorem callE (f : String) (es : Fb.Es) (sc : Scope) (fb : Str → Bool) (x : Str) (p pos : Pos) (xs : List Expr) (h1 : (Γ.fns f).isSome = true) (h2 : gloOk sc x f = true) (h3 : es.chk Γ N sc fb xs = true) (Y : Cx) (F : XK) (a : At Γ Φ X k N sc fb Y F)
    (hA : PA Y xs (tA Y.K X w0 H0 F (es.ev Φ Γ.con))) : PE Y (.Call (.Name x p) xs [] pos) (tE Y.K X w0 H0 F ((E.call f es).ev Φ Γ.con)) := by
  obtain ⟨g1, g2, g3, g4⟩ := glo_of a.s h2
  obtain ⟨n, hn⟩ := Option.isSome_iff_exists.mp h1
  obtain ⟨fa, fd, ps, l1, FG, l2, l3, l4⟩ := a.ok.g.fn f n hn
  obtain ⟨l5, l6⟩ := es.chk_len xs h3
  cases xs with
  | nil =>
    refine PE.imp (pe_g0 FG a.ok.room0 a.ok.gu g2 (by rw [g1]; exact l2) l3 l4 a.ok.pass g3) fun σ H Q q => ?_
    obtain ⟨w, st, env, hE, hW, q⟩ := q
    simp only [E.ev] at q
    cases e1 : es.ev Φ Γ.con env st with
    | ok ds st1 =>
      have e0 := es.ev_len env _ _ _ e1
      rw [← l5] at e0
      have e2 : ds = [] := List.eq_nil_of_length_eq_zero e0
      subst e2
      cases es with
      | nil =>
        simp only [Es.ev] at q e1
        cases e1
        exact ⟨w, st, [], hW, trivial, q⟩
      | cons _ _ => simp [Es.len] at l5
    | exc c p st1 =>
      cases es with
      | nil => simp only [Es.ev] at e1; cases e1
      | cons _ _ => simp [Es.len] at l5
    | bad =>
      cases es with
      | nil => simp only [Es.ev] at e1; cases e1
      | cons _ _ => simp [Es.len] at l5
  | cons y ys =>
    simp only [List.all_cons, Bool.and_eq_true] at l6
    refine PE.imp (pe_g FG a.ok.room0 a.ok.gu g2 (by rw [g1]; exact l2) l3 l4 a.ok.pass hA g3 (star_cons l6.1) (star_none l6.2)) fun σ H Q q => ?_
    obtain ⟨w, st, env, hE, hW, q⟩ := q
    simp only [E.ev] at q
    exact tA_go hE hW q fun ds st1 w1 H1 vs e1 hE1 hW1 r z => ⟨w1, st1, ds, hW1, r, z⟩
theorem bltE (f : Bl) (es : Fb.Es) (sc : Scope) (fb : Str → Bool) (x : Str) (p pos : Pos) (xs : List Expr) (h1 : (!xs.isEmpty) = true) (h2 : gloOk sc x f.name = true) (h3 : es.chk Γ N sc fb xs = true) (Y : Cx) (F : XK) (a : At Γ Φ X k N sc fb Y F)
    (hA : PA Y xs (tA Y.K X w0 H0 F (es.ev Φ Γ.con))) : PE Y (.Call (.Name x p) xs [] pos) (tE Y.K X w0 H0 F ((E.blt f es).ev Φ Γ.con)) := by
  obtain ⟨g1, g2, g3, g4⟩ := glo_of a.s h2
  obtain ⟨l5, l6⟩ := es.chk_len xs h3
  cases xs with
  | nil => cases h1
  | cons y ys =>
    simp only [List.all_cons, Bool.and_eq_true] at l6
    refine PE.imp (callV (blt_call a.ok f) g2 g1 (by rw [g1]; exact a.ok.g.free _ (free_bl f)) hA g4 g3 (star_cons l6.1) (star_none l6.2)) fun σ H Q q => ?_
    obtain ⟨w, st, env, hE, hW, q⟩ := q
    simp only [E.ev] at q
    exact tA_go hE hW q fun ds st1 w1 H1 vs e1 hE1 hW1 r z => blt_read hW1 r z
theorem isiE (x : Fb.E) (t : Ty) (sc : Scope) (fb : Str → Bool) (n z : Str) (p p2 pos : Pos) (y : Expr) (h1 : gloOk sc n "isinstance" = true) (h2 : gloOk sc z t.name = true) (h3 : plainE y = true) (Y : Cx) (F : XK) (a : At Γ Φ X k N sc fb Y F)
    (hx : PE Y y (tE Y.K X w0 H0 F (x.ev Φ Γ.con))) : PE Y (.Call (.Name n p) [y, .Name z p2] [] pos) (tE Y.K X w0 H0 F ((E.isi x t).ev Φ Γ.con)) := by
  obtain ⟨g1, g2, g3, g4⟩ := glo_of a.s h1
  obtain ⟨f1, f2, f3, f4⟩ := glo_of a.s h2
  have ht : PE Y (.Name z p2) (tC (.ty t.name)) := pe_bltn f2 (by rw [f1]; exact a.ok.g.free _ (free_ty t)) (by rw [f1]; exact boot_ty t) rfl f4 f3
  refine PE.imp (pe_callB (isi_call t) g2 (by rw [g1]; exact a.ok.g.free _ (by decide)) (by rw [g1]; exact boot_isi) (pa_cons hx (pa_cons ht pa_nil rfl) (star_cons h3)) g4 g3 (star_cons h3) rfl) fun σ H Q q => ?_
  obtain ⟨w, st, env, hE, hW, q⟩ := q
  simp only [E.ev] at q
  exact one_read hE hW q fun d st1 w1 H1 v e1 hE1 hW1 r z => ⟨w1.B, v, d, rfl, r, outX_gives hW1 z _ _ (Same.refl _) (.bl _)⟩
theorem chk0_inv {it : Fb.It} {t : T} {c : Oe} {g : G} {own : List Nat} {sc : Scope} {fb : Str → Bool} {scope : Scope} {elt : Expr} {gs : List Comprehension} (h : G.chk0 Γ N (.gen it t c g) own sc fb scope elt gs = true) :
    ∃ tg iter ifs, gs = [⟨tg, iter, ifs, 0⟩] ∧ (it.chk Γ N sc fb tg iter && (t.chk N (relS scope sc) (fun x => scope.names.lookup x == some .cell) tg && (t.slots.all (own.contains ·) &&
      (c.chkL Γ N (relS scope sc) (fun x => scope.names.lookup x == some .cell) ifs && g.chkF Γ N (relS scope sc) (fun x => scope.names.lookup x == some .cell) elt)))) = true := by
  unfold G.chk0 at h
  split at h
  · rename_i e1; cases e1; exact ⟨_, _, _, rfl, h⟩
  · cases h
mutual
theorem sndE : ∀ (ir : Fb.E) (sc : Scope) (fb : Str → Bool) (e : Expr), ir.chk Γ N sc fb e = true → ∀ (Y : Cx) (F : XK), At Γ Φ X k N sc fb Y F → PE Y e (tE Y.K X w0 H0 F (ir.ev Φ Γ.con))
  | .var i, sc, fb, e, h, Y, F, a => by
    cases e <;> try (exact absurd h Bool.false_ne_true)
    rename_i x pos
    simp only [E.chk, Bool.and_eq_true, decide_eq_true_eq] at h
    obtain ⟨v1, v2, v3⟩ := vis_of a.s h.2
    refine PE.imp (pe_var (by rw [a.n]; exact h.1) v1 v2 v3) fun σ H Q q => ?_
    obtain ⟨w, st, env, hE, hW, q⟩ := q
    simp only [E.ev] at q
    obtain ⟨d, e1, q⟩ := outX_lift q
    obtain ⟨s, e2, e3⟩ := Option.bind_eq_some_iff.mp e1
    cases s <;> simp [Sl.get] at e3
    subst e3
    obtain ⟨v, h1, h2⟩ := hE.val i _ e2
    exact ⟨v, h1, outX_now hW q v h2⟩
  | .cst p, sc, fb, e, h, Y, F, a => by
    cases e <;> try (exact absurd h Bool.false_ne_true)
    rename_i c kk pos
    simp only [E.chk] at h
    have go : ∀ (v : V), (∀ K H, Dq K H v p) → ∀ σ H Q, tE Y.K X w0 H0 F ((E.cst p).ev Φ Γ.con) σ H Q → tC v σ H Q := fun v d σ H Q q => by
      obtain ⟨w, st, env, hE, hW, q⟩ := q
      simp only [E.ev] at q
      exact outX_gives hW q _ _ (Same.refl _) (d _ _)
    cases p with
    | none => cases c <;> try (exact absurd h Bool.false_ne_true)
              exact PE.imp pe_non (go .non fun _ _ => .non)
    | bool b =>
      cases c <;> try (exact absurd h Bool.false_ne_true)
      simp only [cstOk, beq_iff_eq] at h
      subst h
      exact PE.imp pe_bl (go (.bl _) fun _ _ => .bl _)
    | int b =>
      cases c <;> try (exact absurd h Bool.false_ne_true)
      simp only [cstOk, beq_iff_eq] at h
      subst h
      exact PE.imp pe_int (go (.int _) fun _ _ => .int _)
    | str b =>
      cases c <;> try (exact absurd h Bool.false_ne_true)
      simp only [cstOk, decide_eq_true_eq] at h
      subst h
      exact PE.imp pe_str (go (.str _) fun _ _ => .str _)
    | _ => cases c <;> exact absurd h Bool.false_ne_true
  | .glo n, sc, fb, e, h, Y, F, a => by
    cases e <;> try (exact absurd h Bool.false_ne_true)
    rename_i x pos
    simp only [E.chk, Bool.and_eq_true] at h
    obtain ⟨g1, g2, g3, g4⟩ := glo_of a.s h.2
    obtain ⟨p, hp⟩ := Option.isSome_iff_exists.mp h.1
    obtain ⟨u, v, c1, c2, c3⟩ := a.ok.g.con n p hp
    refine PE.imp (pe_glob g2 (by rw [g1]; exact c1) c2 g3) fun σ H Q q => ?_
    obtain ⟨w, st, env, hE, hW, q⟩ := q
    simp only [E.ev, hp] at q
    exact outX_gives hW q _ _ (Same.refl _) (c3 _)
  | .tup es, sc, fb, e, h, Y, F, a => by
    cases e <;> try (exact absurd h Bool.false_ne_true)
    simp only [E.chk, Bool.and_eq_true, decide_eq_true_eq] at h
    refine PE.imp (pe_tup (sndEs es sc fb _ h.2 Y F a)) fun σ H Q q => ?_
    obtain ⟨w, st, env, hE, hW, q⟩ := q
    simp only [E.ev] at q
    exact tup_read hE hW (small_es h.1 h.2 env) q
  | .lst es, sc, fb, e, h, Y, F, a => by
    cases e <;> try (exact absurd h Bool.false_ne_true)
    simp only [E.chk, Bool.and_eq_true, decide_eq_true_eq] at h
    refine PE.imp (pe_lst (sndEs es sc fb _ h.2 Y F a)) fun σ H Q q => ?_
    obtain ⟨w, st, env, hE, hW, q⟩ := q
    simp only [E.ev] at q
    exact lst_read hE hW (small_es h.1 h.2 env) q
  | .nref es, sc, fb, e, h, Y, F, a => by
    cases e <;> try (exact absurd h Bool.false_ne_true)
    simp only [E.chk, Bool.and_eq_true, decide_eq_true_eq] at h
    refine PE.imp (pe_lst (sndEs es sc fb _ h.2 Y F a)) fun σ H Q q => ?_
    obtain ⟨w, st, env, hE, hW, q⟩ := q
    simp only [E.ev] at q
    exact nref_read hE hW (small_es h.1 h.2 env) q
  | .bin o x y, sc, fb, e, h, Y, F, a => by
    cases e <;> try (exact absurd h Bool.false_ne_true)
    simp only [E.chk, Bool.and_eq_true, decide_eq_true_eq] at h
    obtain ⟨h1, h2, h3⟩ := h
    subst h1
    refine PE.imp (pe_op (bo_ok o) (sndE x sc fb _ h2 Y F a) (sndE y sc fb _ h3 Y F a)) fun σ H Q q => ?_
    obtain ⟨w, st, env, hE, hW, q⟩ := q
    simp only [E.ev] at q
    exact bin_read hE hW q
  | .neg x, sc, fb, e, h, Y, F, a => by
    cases e <;> try (exact absurd h Bool.false_ne_true)
    rename_i op y pos
    cases op <;> try (exact absurd h Bool.false_ne_true)
    simp only [E.chk] at h
    refine PE.imp (pe_un un_neg (sndE x sc fb _ h Y F a)) fun σ H Q q => ?_
    obtain ⟨w, st, env, hE, hW, q⟩ := q
    simp only [E.ev] at q
    refine one_read hE hW q fun p st1 w1 H1 v e1 hE1 hW1 r z => ?_
    cases p with
    | int i =>
      cases r
      exact ⟨i, rfl, outX_gives hW1 z _ _ (Same.refl _) (.int _)⟩
    | _ => exact z.elim
  | .not x, sc, fb, e, h, Y, F, a => by
    cases e <;> try (exact absurd h Bool.false_ne_true)
    rename_i op y pos
    cases op <;> try (exact absurd h Bool.false_ne_true)
    simp only [E.chk] at h
    refine PE.imp (pe_not (sndE x sc fb _ h Y F a)) fun σ H Q q => ?_
    obtain ⟨w, st, env, hE, hW, q⟩ := q
    simp only [E.ev] at q
    refine one_read hE hW q fun p st1 w1 H1 v e1 hE1 hW1 r z => ?_
    cases p with
    | bool b =>
      cases r
      exact ⟨b, rfl, outX_gives hW1 z _ _ (Same.refl _) (.bl _)⟩
    | _ => exact z.elim
  | .cmp c x y, sc, fb, e, h, Y, F, a => by
    cases e <;> try (exact absurd h Bool.false_ne_true)
    rename_i l ops rs pos
    match ops, rs, h with
    | [op], [r], h =>
      simp only [E.chk, Bool.and_eq_true, decide_eq_true_eq] at h
      obtain ⟨h1, h2, h3, h4⟩ := h
      subst h1
      refine PE.imp (pe_cmpR (cm_ok a.ok.roomy c) (sndE x sc fb _ h3 Y F a) (sndE y sc fb _ h4 Y F a) (marksNo h2)) fun σ H Q q => ?_
      obtain ⟨w, st, env, hE, hW, q⟩ := q
      simp only [E.ev] at q
      exact cmpV_read hE hW q
  | .chn c c' x y z, sc, fb, e, h, Y, F, a => by
    cases e <;> try (exact absurd h Bool.false_ne_true)
    rename_i l ops rs pos
    match ops, rs, h with
    | [op, op'], [r, r'], h =>
      simp only [E.chk, Bool.and_eq_true, decide_eq_true_eq] at h
      obtain ⟨h1, h2, h3, h4, h5, h6⟩ := h
      subst h1 h2
      refine PE.imp (pe_chain (cm_ok a.ok.roomy c) (cm_ok a.ok.roomy c') (sndE x sc fb _ h4 Y F a) (sndE y sc fb _ h5 Y F a) (sndE z sc fb _ h6 Y F a) (marksNo (op := c'.ast) h3)) fun σ H Q q => ?_
      obtain ⟨w, st, env, hE, hW, q⟩ := q
      simp only [E.ev] at q
      refine chn_read (en := fun o => M.lift (o.map bl)) (no := M.pure (bl false)) hE hW q (fun st w H d z => outX_gives d z _ _ (Same.refl _) (.bl _)) fun st w H o d z => ?_
      obtain ⟨b, e1, z1⟩ := outX_lift z
      obtain ⟨b', e2, eb⟩ := Option.map_eq_some_iff.mp e1
      subst eb
      exact ⟨b', e2, fun H' kk => outX_gives d z1 _ _ kk (.bl _)⟩
  | .and x y, sc, fb, e, h, Y, F, a => by
    cases e <;> try (exact absurd h Bool.false_ne_true)
    rename_i op vs pos
    cases op <;> try (exact absurd h Bool.false_ne_true)
    match vs, h with
    | u :: v :: r, h =>
      simp only [E.chk, Bool.and_eq_true] at h
      have hb : PE Y (.BoolOp .And (v :: r) pos) (tE Y.K X w0 H0 F (y.ev Φ Γ.con)) := by
        cases r with
        | nil => exact pe_one (sndE y sc fb _ h.2 Y F a)
        | cons _ _ => exact sndE y sc fb _ h.2 Y F a
      refine PE.imp (pe_and (sndE x sc fb _ h.1 Y F a) hb) fun σ H Q q => ?_
      obtain ⟨w, st, env, hE, hW, q⟩ := q
      simp only [E.ev] at q
      refine one_read hE hW q fun p st1 w1 H1 v e1 hE1 hW1 r z => ?_
      match p, r, z with
      | .bool true, .bl _, z => exact ⟨true, rfl, by rw [if_pos rfl]; exact ⟨w1, st1, env, hE1, hW1, z⟩⟩
      | .bool false, .bl _, z => exact ⟨false, rfl, by rw [if_neg Bool.false_ne_true]; exact outX_gives hW1 z _ _ (Same.refl _) (.bl _)⟩
      | .none, _, z => exact z.elim
      | .int _, _, z => exact z.elim
      | .str _, _, z => exact z.elim
      | .list _, _, z => exact z.elim
      | .tuple _, _, z => exact z.elim
  | .or x y, sc, fb, e, h, Y, F, a => by
    cases e <;> try (exact absurd h Bool.false_ne_true)
    rename_i op vs pos
    cases op <;> try (exact absurd h Bool.false_ne_true)
    match vs, h with
    | u :: v :: r, h =>
      simp only [E.chk, Bool.and_eq_true] at h
      have hb : PE Y (.BoolOp .Or (v :: r) pos) (tE Y.K X w0 H0 F (y.ev Φ Γ.con)) := by
        cases r with
        | nil => exact pe_one (sndE y sc fb _ h.2 Y F a)
        | cons _ _ => exact sndE y sc fb _ h.2 Y F a
      refine PE.imp (pe_or (sndE x sc fb _ h.1 Y F a) hb) fun σ H Q q => ?_
      obtain ⟨w, st, env, hE, hW, q⟩ := q
      simp only [E.ev] at q
      refine one_read hE hW q fun p st1 w1 H1 v e1 hE1 hW1 r z => ?_
      match p, r, z with
      | .bool true, .bl _, z => exact ⟨true, rfl, by rw [if_pos rfl]; exact outX_gives hW1 z _ _ (Same.refl _) (.bl _)⟩
      | .bool false, .bl _, z => exact ⟨false, rfl, by rw [if_neg Bool.false_ne_true]; exact ⟨w1, st1, env, hE1, hW1, z⟩⟩
      | .none, _, z => exact z.elim
      | .int _, _, z => exact z.elim
      | .str _, _, z => exact z.elim
      | .list _, _, z => exact z.elim
      | .tuple _, _, z => exact z.elim
  | .ife t x y, sc, fb, e, h, Y, F, a => by
    cases e <;> try (exact absurd h Bool.false_ne_true)
    simp only [E.chk, Bool.and_eq_true] at h
    refine PE.imp (pe_ifExp (sndT2 t sc fb _ h.1 Y F a) (sndE x sc fb _ h.2.1 Y F a) (sndE y sc fb _ h.2.2 Y F a)) fun σ H Q q => ?_
    obtain ⟨w, st, env, hE, hW, q⟩ := q
    simp only [E.ev] at q
    refine tT_go hE hW q fun b st1 w1 H1 e1 hE1 hW1 z => ?_
    cases b with
    | true =>
      rw [if_pos rfl] at z ⊢
      exact ⟨w1, st1, env, hE1, hW1, z⟩
    | false =>
      rw [if_neg Bool.false_ne_true] at z ⊢
      exact ⟨w1, st1, env, hE1, hW1, z⟩
  | .ix x y, sc, fb, e, h, Y, F, a => by
    cases e <;> try (exact absurd h Bool.false_ne_true)
    have h' := h
    unfold E.chk at h'
    simp only [Bool.and_eq_true] at h'
    obtain ⟨h1, h2, h3⟩ := h'
    refine PE.imp (pe_ix (IxR.or ix_ok ix_list) (sndE x sc fb _ h2 Y F a) (sndE y sc fb _ h3 Y F a) (ixNo h1)) fun σ H Q q => ?_
    obtain ⟨w, st, env, hE, hW, q⟩ := q
    simp only [E.ev] at q
    exact ix_read hE hW q
  | .cut x lo hi, sc, fb, e, h, Y, F, a => by
    cases e <;> try (exact absurd h Bool.false_ne_true)
    rename_i v sl pos
    cases sl <;> try (exact absurd h Bool.false_ne_true)
    rename_i l u s p2
    cases s <;> try (exact absurd h Bool.false_ne_true)
    simp only [E.chk, Bool.and_eq_true] at h
    refine PE.imp (pe_slice cut_ok (sndE x sc fb _ h.1 Y F a) (sndO lo sc fb _ h.2.1 Y F a) (sndO hi sc fb _ h.2.2 Y F a)) fun σ H Q q => ?_
    obtain ⟨w, st, env, hE, hW, q⟩ := q
    simp only [E.ev] at q
    refine tE_go hE hW q fun d st1 w1 H1 v e1 hE1 hW1 r z => ?_
    refine tO_go hE1 hW1 z fun o st2 w2 H2 e2 hE2 hW2 z => ?_
    refine tO_go hE2 hW2 z fun o2 st3 w3 H3 e3 hE3 hW3 z => ?_
    obtain ⟨p, hp, z⟩ := outX_need z
    subst hp
    obtain ⟨d2, e4, z2⟩ := outX_lift z
    obtain ⟨p2, e5, ep⟩ := Option.map_eq_some_iff.mp e4
    subst ep
    exact ⟨w3.B, p, p2, hW3.dom, dp_mono (e3.hx hW2).hid (dp_mono (e2.hx hW1).hid r), e5, outX_gives hW3 z2⟩
  | .call f es, sc, fb, e, h, Y, F, a => by
    cases e <;> try (exact absurd h Bool.false_ne_true)
    rename_i fn xs kw pos
    cases fn <;> try (exact absurd h Bool.false_ne_true)
    cases kw <;> try (exact absurd h Bool.false_ne_true)
    simp only [E.chk, Bool.and_eq_true] at h
    obtain ⟨h1, h2, h3⟩ := h
    exact callE f es sc fb _ _ _ _ h1 h2 h3 Y F a (sndEs es sc fb _ h3 Y F a)
  | .blt f es, sc, fb, e, h, Y, F, a => by
    cases e <;> try (exact absurd h Bool.false_ne_true)
    rename_i fn xs kw pos
    cases fn <;> try (exact absurd h Bool.false_ne_true)
    cases kw <;> try (exact absurd h Bool.false_ne_true)
    simp only [E.chk, Bool.and_eq_true] at h
    obtain ⟨h1, h2, h3⟩ := h
    exact bltE f es sc fb _ _ _ _ h1 h2 h3 Y F a (sndEs es sc fb _ h3 Y F a)
  | .isi x t, sc, fb, e, h, Y, F, a => by
    cases e <;> try (exact absurd h Bool.false_ne_true)
    rename_i fn xs kw pos
    cases fn <;> try (exact absurd h Bool.false_ne_true)
    match xs, kw, h with
    | [y, .Name z _], [], h =>
      simp only [E.chk, Bool.and_eq_true] at h
      obtain ⟨h1, h2, h3, h4⟩ := h
      exact isiE x t sc fb _ _ _ _ _ _ h1 h2 h3 Y F a (sndE x sc fb _ h4 Y F a)
  | .lc own (.gen it t c (.fin x)), sc, fb, e, h, Y, F, a => by
    cases e <;> try (exact absurd h Bool.false_ne_true)
    rename_i elt gs scope pos
    simp only [E.chk, Bool.and_eq_true, decide_eq_true_eq] at h
    obtain ⟨h1, h2, h3⟩ := h
    obtain ⟨tg, iter, ifs, eg, h4⟩ := chk0_inv h3
    subst eg
    simp only [G.chkF, Bool.and_eq_true] at h4
    obtain ⟨g1, g2, g3, g4, g5⟩ := h4
    have B := blkOk_by (N := N) (sc := sc) h2
    rw [← a.n, ← a.s] at B
    have hcalm := a.ok.calm
    have inn : ∀ (s : Shared) (H : Hp) (C : Addr) (cl : List (Str × Addr)) (fp : List Addr), At Γ Φ X k N (relS scope sc) (fun x => scope.names.lookup x == some .cell) (Y.blk s H scope (compEnvC scope cl C Y.env) fp) noE := fun s H C cl fp =>
      ⟨a.ok.blk s H scope _ fp, a.n, by rw [← a.s]; rfl, rfl⟩
    refine PE.imp (pe_lc (te := tE Y.K X w0 H0 noE (x.ev Φ Γ.con)) (tt := tT Y.K X w0 H0 noE (c.ok Φ Γ.con)) (g := tG Y.K w0 H0 t) (wi := tI Y.K X w0 H0 F (it.ev Φ Γ.con)) hcalm a.ok.nd (sndI it sc fb tg iter g1 Y F a) B
      (fun s H C cl fp => sndT rfl (inn s H C cl fp).n a.ok.nd (inn s H C cl fp).s rfl hcalm t tg g2) (fun s H C cl fp => sndL c _ _ ifs g4 _ noE (inn s H C cl fp)) (fun s H C cl fp => sndE x _ _ elt g5 _ noE (inn s H C cl fp)) (itNo g1)) fun σ H Q q => ?_
    obtain ⟨w, st, env, hE, hW, q⟩ := q
    simp only [E.ev, G.ev] at q
    rw [ownN_ix]
    exact lc_read (fun i hi => by
      have := List.all_eq_true.mp g3 i hi
      simpa using this) hE hW q
  | .lc own (.gen it t c (.gen _ _ _ _)), sc, fb, e, h, Y, F, a => by
    cases e <;> try (exact absurd h Bool.false_ne_true)
    rename_i elt gs scope pos
    simp only [E.chk, Bool.and_eq_true, decide_eq_true_eq] at h
    obtain ⟨h1, h2, h3⟩ := h
    obtain ⟨tg, iter, ifs, eg, h4⟩ := chk0_inv h3
    simp [G.chkF] at h4
  | .lc own (.fin _), sc, fb, e, h, Y, F, a => by
    cases e <;> try (exact absurd h Bool.false_ne_true)
    rename_i elt gs scope pos
    simp only [E.chk, Bool.and_eq_true, decide_eq_true_eq] at h
    obtain ⟨h1, h2, h3⟩ := h
    exact absurd h3 Bool.false_ne_true
termination_by ir => (sizeOf ir, 0)
decreasing_by all_goals (simp_wf; omega)
theorem sndT2 : ∀ (ir : Fb.E) (sc : Scope) (fb : Str → Bool) (e : Expr), ir.chk Γ N sc fb e = true → ∀ (Y : Cx) (F : XK), At Γ Φ X k N sc fb Y F → PT Y e (tT Y.K X w0 H0 F (ir.tst Φ Γ.con))
  | .not x, sc, fb, e, h, Y, F, a => by
    cases e <;> try (exact absurd h Bool.false_ne_true)
    rename_i op y pos
    cases op <;> try (exact absurd h Bool.false_ne_true)
    simp only [E.chk] at h
    refine PT.imp (pt_not (sndT2 x sc fb _ h Y F a)) fun σ H Q q => ?_
    obtain ⟨w, st, env, hE, hW, q⟩ := q
    simp only [E.tst] at q
    exact tT_go hE hW q fun b st1 w1 H1 e1 hE1 hW1 z => outX_now hW1 z
  | .and x y, sc, fb, e, h, Y, F, a => by
    cases e <;> try (exact absurd h Bool.false_ne_true)
    rename_i op vs pos
    cases op <;> try (exact absurd h Bool.false_ne_true)
    match vs, h with
    | u :: v :: r, h => exact (sndW (.and x y) sc fb u v r pos .And h Y F a).pt
  | .or x y, sc, fb, e, h, Y, F, a => by
    cases e <;> try (exact absurd h Bool.false_ne_true)
    rename_i op vs pos
    cases op <;> try (exact absurd h Bool.false_ne_true)
    match vs, h with
    | u :: v :: r, h => exact (sndW (.or x y) sc fb u v r pos .Or h Y F a).pt
  | .cmp c x y, sc, fb, e, h, Y, F, a => by
    cases e <;> try (exact absurd h Bool.false_ne_true)
    rename_i l ops rs pos
    match ops, rs, h with
    | [op], [r], h =>
      simp only [E.chk, Bool.and_eq_true, decide_eq_true_eq] at h
      obtain ⟨h1, h2, h3, h4⟩ := h
      subst h1
      refine PT.imp (pt_cmpR (cm_ok a.ok.roomy c) (sndE x sc fb _ h3 Y F a) (sndE y sc fb _ h4 Y F a) (marksNo h2)) fun σ H Q q => ?_
      obtain ⟨w, st, env, hE, hW, q⟩ := q
      simp only [E.tst] at q
      exact cmp_read hE hW q
  | .chn c c' x y z, sc, fb, e, h, Y, F, a => by
    cases e <;> try (exact absurd h Bool.false_ne_true)
    rename_i l ops rs pos
    match ops, rs, h with
    | [op, op'], [r, r'], h =>
      simp only [E.chk, Bool.and_eq_true, decide_eq_true_eq] at h
      obtain ⟨h1, h2, h3, h4, h5, h6⟩ := h
      subst h1 h2
      refine PT.imp (pt_chain (cm_ok a.ok.roomy c) (cm_ok a.ok.roomy c') (sndE x sc fb _ h4 Y F a) (sndE y sc fb _ h5 Y F a) (sndE z sc fb _ h6 Y F a) (marksNo (op := c'.ast) h3)) fun σ H Q q => ?_
      obtain ⟨w, st, env, hE, hW, q⟩ := q
      simp only [E.tst] at q
      refine chn_read (R := fun x H' => ∃ k, x = .bl k ∧ Q k H') (en := fun o => M.lift o) (no := M.pure false) hE hW q (fun st w H d z => ⟨false, rfl, outX_now d z⟩) fun st w H o d z => ?_
      obtain ⟨b, e1, z1⟩ := outX_lift z
      refine ⟨b, e1, fun H' kk => ⟨b, rfl, ?_⟩⟩
      obtain ⟨e2, d2⟩ := Ext.grown (H' := H') d kk
      exact z1 w H' e2 d2
  | .isi x t, sc, fb, e, h, Y, F, a => by
    cases e <;> try (exact absurd h Bool.false_ne_true)
    rename_i fn xs kw pos
    cases fn <;> try (exact absurd h Bool.false_ne_true)
    match xs, kw, h with
    | [y, .Name z _], [], h =>
      simp only [E.chk, Bool.and_eq_true] at h
      obtain ⟨h1, h2, h3, h4⟩ := h
      refine PT.imp (pt_val (isiE x t sc fb _ _ _ _ _ _ h1 h2 h3 Y F a (sndE x sc fb _ h4 Y F a))) fun σ H Q q => ?_
      obtain ⟨w, st, env, hE, hW, q⟩ := q
      refine ⟨w, st, env, hE, hW, ?_⟩
      simp only [E.tst] at q
      simp only [E.ev]
      cases e1 : x.ev Φ Γ.con env st with
      | ok d st1 =>
        unfold M.bind at q ⊢
        rw [e1] at q ⊢
        cases d with
        | d p => exact fun w' H' e2 d2 v r => by
                  cases r
                  exact ⟨_, rfl, q w' H' e2 d2⟩
        | _ => exact q.elim
      | exc c p st1 =>
        unfold M.bind at q ⊢
        rw [e1] at q ⊢
        exact q
      | bad =>
        unfold M.bind at q
        rw [e1] at q
        exact q.elim
  | .call f es, sc, fb, e, h, Y, F, a => by
    cases e <;> try (exact absurd h Bool.false_ne_true)
    rename_i fn xs kw pos
    cases fn <;> try (exact absurd h Bool.false_ne_true)
    cases kw <;> try (exact absurd h Bool.false_ne_true)
    simp only [E.chk, Bool.and_eq_true] at h
    obtain ⟨h1, h2, h3⟩ := h
    refine PT.imp (pt_truth (callE f es sc fb _ _ _ _ h1 h2 h3 Y F a (sndEs es sc fb _ h3 Y F a)) (fun _ => rfl)) fun σ H Q q => ?_
    obtain ⟨w, st, env, hE, hW, q⟩ := q
    simp only [E.tst] at q
    exact truth_read (m := (E.call f es).ev Φ Γ.con) hE hW (by simp only [E.ev]; exact q)
  | .blt f es, sc, fb, e, h, Y, F, a => by
    cases e <;> try (exact absurd h Bool.false_ne_true)
    rename_i fn xs kw pos
    cases fn <;> try (exact absurd h Bool.false_ne_true)
    cases kw <;> try (exact absurd h Bool.false_ne_true)
    simp only [E.chk, Bool.and_eq_true] at h
    obtain ⟨h1, h2, h3⟩ := h
    refine PT.imp (pt_truth (bltE f es sc fb _ _ _ _ h1 h2 h3 Y F a (sndEs es sc fb _ h3 Y F a)) (fun _ => rfl)) fun σ H Q q => ?_
    obtain ⟨w, st, env, hE, hW, q⟩ := q
    simp only [E.tst] at q
    exact truth_read (m := (E.blt f es).ev Φ Γ.con) hE hW (by simp only [E.ev]; exact q)
  | .var i, sc, fb, e, h, Y, F, a => by
    cases e <;> try (exact absurd h Bool.false_ne_true)
    refine PT.imp (pt_truth (sndE (.var i) sc fb _ h Y F a) (fun _ => rfl)) fun σ H Q q => ?_
    obtain ⟨w, st, env, hE, hW, q⟩ := q
    simp only [E.tst] at q
    exact truth_read (m := (E.var i).ev Φ Γ.con) hE hW (by simp only [E.ev]; exact q)
  | .cst _, _, _, _, _, _, _, _ => ⟨fun _ _ _ _ _ _ q => by obtain ⟨_, _, _, _, _, q⟩ := q; exact q.elim⟩
  | .glo _, _, _, _, _, _, _, _ => ⟨fun _ _ _ _ _ _ q => by obtain ⟨_, _, _, _, _, q⟩ := q; exact q.elim⟩
  | .tup _, _, _, _, _, _, _, _ => ⟨fun _ _ _ _ _ _ q => by obtain ⟨_, _, _, _, _, q⟩ := q; exact q.elim⟩
  | .lst _, _, _, _, _, _, _, _ => ⟨fun _ _ _ _ _ _ q => by obtain ⟨_, _, _, _, _, q⟩ := q; exact q.elim⟩
  | .nref _, _, _, _, _, _, _, _ => ⟨fun _ _ _ _ _ _ q => by obtain ⟨_, _, _, _, _, q⟩ := q; exact q.elim⟩
  | .bin _ _ _, _, _, _, _, _, _, _ => ⟨fun _ _ _ _ _ _ q => by obtain ⟨_, _, _, _, _, q⟩ := q; exact q.elim⟩
  | .neg _, _, _, _, _, _, _, _ => ⟨fun _ _ _ _ _ _ q => by obtain ⟨_, _, _, _, _, q⟩ := q; exact q.elim⟩
  | .ife _ _ _, _, _, _, _, _, _, _ => ⟨fun _ _ _ _ _ _ q => by obtain ⟨_, _, _, _, _, q⟩ := q; exact q.elim⟩
  | .ix _ _, _, _, _, _, _, _, _ => ⟨fun _ _ _ _ _ _ q => by obtain ⟨_, _, _, _, _, q⟩ := q; exact q.elim⟩
  | .cut _ _ _, _, _, _, _, _, _, _ => ⟨fun _ _ _ _ _ _ q => by obtain ⟨_, _, _, _, _, q⟩ := q; exact q.elim⟩
  | .lc _ _, _, _, _, _, _, _, _ => ⟨fun _ _ _ _ _ _ q => by obtain ⟨_, _, _, _, _, q⟩ := q; exact q.elim⟩
termination_by ir => (sizeOf ir, 2)
decreasing_by all_goals (simp_wf; omega)
theorem sndW : ∀ (ir : Fb.E) (sc : Scope) (fb : Str → Bool) (u v : Expr) (r : List Expr) (pos : Pos) (op : BoolOp), ir.chk Γ N sc fb (.BoolOp op (u :: v :: r) pos) = true → ∀ (Y : Cx) (F : XK), At Γ Φ X k N sc fb Y F → PW Y (.BoolOp op (u :: v :: r) pos) (tT Y.K X w0 H0 F (ir.tst Φ Γ.con))
  | .and x y, sc, fb, u, v, r, pos, op, h, Y, F, a => by
    cases op with
    | Or => exact absurd h Bool.false_ne_true
    | And =>
      simp only [E.chk, Bool.and_eq_true] at h
      have hb : PW Y (.BoolOp .And (v :: r) pos) (tT Y.K X w0 H0 F (y.tst Φ Γ.con)) := by
        cases r with
        | nil => exact pw_and1 (sndT2 y sc fb _ h.2 Y F a)
        | cons v2 r2 => exact sndW y sc fb v v2 r2 pos .And h.2 Y F a
      refine PW.imp (pw_and (sndT2 x sc fb _ h.1 Y F a) hb) fun σ H Q q => ?_
      obtain ⟨w, st, env, hE, hW, q⟩ := q
      simp only [E.tst] at q
      refine tT_go hE hW q fun b st1 w1 H1 e1 hE1 hW1 z => ?_
      cases b with
      | true =>
        rw [if_pos rfl] at z ⊢
        exact ⟨w1, st1, env, hE1, hW1, z⟩
      | false =>
        rw [if_neg Bool.false_ne_true] at z ⊢
        exact outX_now hW1 z
  | .or x y, sc, fb, u, v, r, pos, op, h, Y, F, a => by
    cases op with
    | And => exact absurd h Bool.false_ne_true
    | Or =>
      simp only [E.chk, Bool.and_eq_true] at h
      have hb : PW Y (.BoolOp .Or (v :: r) pos) (tT Y.K X w0 H0 F (y.tst Φ Γ.con)) := by
        cases r with
        | nil => exact pw_or1 (sndT2 y sc fb _ h.2 Y F a)
        | cons v2 r2 => exact sndW y sc fb v v2 r2 pos .Or h.2 Y F a
      refine PW.imp (pw_or (sndT2 x sc fb _ h.1 Y F a) hb) fun σ H Q q => ?_
      obtain ⟨w, st, env, hE, hW, q⟩ := q
      simp only [E.tst] at q
      refine tT_go hE hW q fun b st1 w1 H1 e1 hE1 hW1 z => ?_
      cases b with
      | true =>
        rw [if_pos rfl] at z ⊢
        exact outX_now hW1 z
      | false =>
        rw [if_neg Bool.false_ne_true] at z ⊢
        exact ⟨w1, st1, env, hE1, hW1, z⟩
  | .var _, _, _, _, _, _, _, _, h, _, _, _ => absurd h Bool.false_ne_true
  | .cst _, _, _, _, _, _, _, _, h, _, _, _ => absurd h Bool.false_ne_true
  | .glo _, _, _, _, _, _, _, _, h, _, _, _ => absurd h Bool.false_ne_true
  | .tup _, _, _, _, _, _, _, _, h, _, _, _ => absurd h Bool.false_ne_true
  | .lst _, _, _, _, _, _, _, _, h, _, _, _ => absurd h Bool.false_ne_true
  | .nref _, _, _, _, _, _, _, _, h, _, _, _ => absurd h Bool.false_ne_true
  | .bin _ _ _, _, _, _, _, _, _, _, h, _, _, _ => absurd h Bool.false_ne_true
  | .neg _, _, _, _, _, _, _, _, h, _, _, _ => absurd h Bool.false_ne_true
  | .not _, _, _, _, _, _, _, _, h, _, _, _ => absurd h Bool.false_ne_true
  | .cmp _ _ _, _, _, _, _, _, _, _, h, _, _, _ => absurd h Bool.false_ne_true
  | .chn _ _ _ _ _, _, _, _, _, _, _, _, h, _, _, _ => absurd h Bool.false_ne_true
  | .ife _ _ _, _, _, _, _, _, _, _, h, _, _, _ => absurd h Bool.false_ne_true
  | .ix _ _, _, _, _, _, _, _, _, h, _, _, _ => absurd h Bool.false_ne_true
  | .cut _ _ _, _, _, _, _, _, _, _, h, _, _, _ => absurd h Bool.false_ne_true
  | .call _ _, _, _, _, _, _, _, _, h, _, _, _ => absurd h Bool.false_ne_true
  | .blt _ _, _, _, _, _, _, _, _, h, _, _, _ => absurd h Bool.false_ne_true
  | .isi _ _, _, _, _, _, _, _, _, h, _, _, _ => absurd h Bool.false_ne_true
  | .lc _ _, _, _, _, _, _, _, _, h, _, _, _ => absurd h Bool.false_ne_true
termination_by ir => (sizeOf ir, 1)
decreasing_by all_goals (simp_wf; omega)
theorem sndEs : ∀ (es : Fb.Es) (sc : Scope) (fb : Str → Bool) (xs : List Expr), es.chk Γ N sc fb xs = true → ∀ (Y : Cx) (F : XK), At Γ Φ X k N sc fb Y F → PA Y xs (tA Y.K X w0 H0 F (es.ev Φ Γ.con))
  | .nil, sc, fb, xs, h, Y, F, a => by
    cases xs <;> try (exact absurd h Bool.false_ne_true)
    refine PA.imp pa_nil fun σ H Q q => ?_
    obtain ⟨w, st, env, hE, hW, q⟩ := q
    simp only [Es.ev] at q
    exact outX_now hW q [] trivial
  | .cons e es, sc, fb, xs, h, Y, F, a => by
    cases xs <;> try (exact absurd h Bool.false_ne_true)
    simp only [Es.chk, Bool.and_eq_true] at h
    refine PA.imp (pa_cons (sndE e sc fb _ h.2.1 Y F a) (sndEs es sc fb _ h.2.2 Y F a) (star_cons h.1)) fun σ H Q q => ?_
    obtain ⟨w, st, env, hE, hW, q⟩ := q
    simp only [Es.ev] at q
    exact tE_go hE hW q fun x st1 w1 H1 v e1 hE1 hW1 r z => tA_go hE1 hW1 z fun ys st2 w2 H2 vs e2 hE2 hW2 r2 z2 => outX_now hW2 z2 _ ⟨rep_mono (e2.hx hW1) r, r2⟩
termination_by ir => (sizeOf ir, 0)
decreasing_by all_goals (simp_wf; omega)
theorem sndO : ∀ (o : Fb.Oe) (sc : Scope) (fb : Str → Bool) (x : Option Expr), o.chk Γ N sc fb x = true → ∀ (Y : Cx) (F : XK), At Γ Φ X k N sc fb Y F → PO Y x (tO Y.K X w0 H0 F (o.prt Φ Γ.con))
  | .no, sc, fb, x, h, Y, F, a => by
    cases x <;> try (exact absurd h Bool.false_ne_true)
    refine PO.imp po_none fun σ H Q q => ?_
    obtain ⟨w, st, env, hE, hW, q⟩ := q
    simp only [Oe.prt] at q
    exact outX_now hW q
  | .yes e, sc, fb, x, h, Y, F, a => by
    cases x <;> try (exact absurd h Bool.false_ne_true)
    simp only [Oe.chk] at h
    refine PO.imp (po_some (sndE e sc fb _ h Y F a)) fun σ H Q q => ?_
    obtain ⟨w, st, env, hE, hW, q⟩ := q
    simp only [Oe.prt] at q
    refine one_read hE hW q fun p st1 w1 H1 v e1 hE1 hW1 r z => ?_
    obtain ⟨o, e2, z1⟩ := outX_lift z
    cases r <;> simp [partOf] at e2
    subst e2
    exact ⟨_, rfl, outX_now hW1 z1⟩
termination_by ir => (sizeOf ir, 0)
decreasing_by all_goals (simp_wf; omega)
theorem sndL : ∀ (o : Fb.Oe) (sc : Scope) (fb : Str → Bool) (x : List Expr), o.chkL Γ N sc fb x = true → ∀ (Y : Cx) (F : XK), At Γ Φ X k N sc fb Y F → PTs Y x (tT Y.K X w0 H0 F (o.ok Φ Γ.con))
  | .no, sc, fb, x, h, Y, F, a => by
    cases x <;> try (exact absurd h Bool.false_ne_true)
    refine PTs.imp pts_nil fun σ H Q q => ?_
    obtain ⟨w, st, env, hE, hW, q⟩ := q
    simp only [Oe.ok] at q
    exact outX_now hW q
  | .yes e, sc, fb, x, h, Y, F, a => by
    match x, h with
    | [y], h =>
      simp only [Oe.chkL] at h
      refine PTs.imp (pts_one (sndT2 e sc fb _ h Y F a)) fun σ H Q q => ?_
      obtain ⟨w, st, env, hE, hW, q⟩ := q
      simp only [Oe.ok] at q
      exact ⟨w, st, env, hE, hW, q⟩
termination_by ir => (sizeOf ir, 0)
decreasing_by all_goals (simp_wf; omega)
theorem sndI : ∀ (it : Fb.It) (sc : Scope) (fb : Str → Bool) (tg x : Expr), it.chk Γ N sc fb tg x = true → ∀ (Y : Cx) (F : XK), At Γ Φ X k N sc fb Y F → PI Y tg x (tI Y.K X w0 H0 F (it.ev Φ Γ.con))
  | .seq e, sc, fb, tg, x, h, Y, F, a => by
    unfold It.chk at h
    simp only [Bool.and_eq_true] at h
    refine PI.imp (pi_seq (sndE e sc fb _ h.2 Y F a)) fun σ H R q => ?_
    obtain ⟨w, st, env, hE, hW, q⟩ := q
    simp only [It.ev] at q
    refine one_read hE hW q fun p st1 w1 H1 v e1 hE1 hW1 r z => ?_
    obtain ⟨items, e2, z1⟩ := outX_lift z
    cases r with
    | lst h1 h2 =>
      cases e2
      exact .inl ⟨_, rfl, ⟨_, .inl (.inl (hide_sub _ _ h1))⟩, outX_now hW1 z1 _ (walk_list h1 h2)⟩
    | tup h1 h2 =>
      cases e2
      exact .inr ⟨_, rfl, ⟨_, seqT_mono hide_sub h1⟩, outX_now hW1 z1 _ (walk_tup h1 h2)⟩
    | _ => simp [seqP] at e2
  | .rng1 e, sc, fb, tg, x, h, Y, F, a => by
    cases x <;> try (exact absurd h Bool.false_ne_true)
    rename_i fn xs kw pos
    cases fn <;> try (exact absurd h Bool.false_ne_true)
    match xs, kw, h with
    | [y], [], h =>
      simp only [It.chk, Bool.and_eq_true] at h
      obtain ⟨g1, g2, g3, g4⟩ := glo_of a.s h.1
      subst g1
      refine PI.imp (pi_range1 g2 (a.ok.g.free "range" (by decide)) (pa_cons (sndE e sc fb _ h.2.2 Y F a) pa_nil (star_cons h.2.1)) (star_cons h.2.1)) fun σ H R q => ?_
      obtain ⟨w, st, env, hE, hW, q⟩ := q
      simp only [It.ev] at q
      refine one_read hE hW q fun p st1 w1 H1 v e1 hE1 hW1 r z => ?_
      cases r with
      | int j =>
        unfold rangeM at z
        simp only at z
        split at z
        · rename_i hz
          simp only [Bool.and_eq_true, rng62, decide_eq_true_eq] at hz
          refine ⟨j, rfl, hz.1.2.1, hz.1.2.2, ?_⟩
          have := outX_now hW1 z (Itr 0 (j - 0).toNat) (walk_rng _ _)
          rwa [Int.sub_zero] at this
        · exact z.elim
      | _ => exact z.elim
  | .rng2 e e2, sc, fb, tg, x, h, Y, F, a => by
    cases x <;> try (exact absurd h Bool.false_ne_true)
    rename_i fn xs kw pos
    cases fn <;> try (exact absurd h Bool.false_ne_true)
    match xs, kw, h with
    | [y, y2], [], h =>
      simp only [It.chk, Bool.and_eq_true] at h
      obtain ⟨g1, g2, g3, g4⟩ := glo_of a.s h.1
      subst g1
      refine PI.imp (pi_range2 g2 (a.ok.g.free "range" (by decide)) (pa_cons (sndE e sc fb _ h.2.2.2.1 Y F a) (pa_cons (sndE e2 sc fb _ h.2.2.2.2 Y F a) pa_nil (star_cons h.2.2.1)) (star_cons h.2.1)) (by rw [star_cons h.2.1, star_cons h.2.2.1]; rfl) (star_cons h.2.2.1)) fun σ H R q => ?_
      obtain ⟨w, st, env, hE, hW, q⟩ := q
      simp only [It.ev] at q
      refine two_read hE hW q fun p p2 st1 w1 H1 v v2 e1 hE1 hW1 r r2 z => ?_
      match p, p2, r, r2, z with
      | .int i, .int j, .int _, .int _, z =>
        unfold rangeM at z
        simp only at z
        split at z
        · rename_i hz
          simp only [Bool.and_eq_true, rng62, decide_eq_true_eq] at hz
          exact ⟨i, j, rfl, ⟨hz.1.1.1, hz.1.1.2, hz.1.2.1, hz.1.2.2⟩, outX_now hW1 z _ (walk_rng _ _)⟩
        · exact z.elim
      | .int _, .none, _, _, z => exact z.elim
      | .int _, .bool _, _, _, z => exact z.elim
      | .int _, .str _, _, _, z => exact z.elim
      | .int _, .list _, _, _, z => exact z.elim
      | .int _, .tuple _, _, _, z => exact z.elim
      | .none, _, _, _, z => exact z.elim
      | .bool _, _, _, _, z => exact z.elim
      | .str _, _, _, _, z => exact z.elim
      | .list _, _, _, _, z => exact z.elim
      | .tuple _, _, _, _, z => exact z.elim
  | .zip e e2, sc, fb, tg, x, h, Y, F, a => by
    cases x <;> try (cases tg <;> exact absurd h Bool.false_ne_true)
    rename_i fn xs kw pos
    cases fn <;> try (cases tg <;> exact absurd h Bool.false_ne_true)
    cases tg <;> try (exact absurd h Bool.false_ne_true)
    match xs, kw, h with
    | [y, y2], [], h =>
      simp only [It.chk, Bool.and_eq_true] at h
      obtain ⟨g1, g2, g3, g4⟩ := glo_of a.s h.1
      subst g1
      refine PI.imp (RZ.pi_zipA g2 (a.ok.g.free "zip" (by decide)) (pa_cons (sndE e sc fb _ h.2.2.2.1 Y F a) (pa_cons (sndE e2 sc fb _ h.2.2.2.2 Y F a) pa_nil (star_cons h.2.2.1)) (star_cons h.2.1)) (star_cons h.2.1) (star_none (by simp [h.2.2.1]))) fun σ H R q => ?_
      obtain ⟨w, st, env, hE, hW, q⟩ := q
      simp only [It.ev] at q
      refine two_read hE hW q fun p p2 st1 w1 H1 v v2 e1 hE1 hW1 r r2 z => ?_
      match p, p2, r, r2, z with
      | .tuple i, .tuple j, .tup h1 h2, .tup h3 h4, z => exact ⟨_, _, _, _, rfl, .inr ⟨seqT_mono hide_sub h1, seqT_mono hide_sub h3, outX_now hW1 z _ (walk_zipT h1 h2 h3 h4)⟩⟩
      | .list i, .list j, .lst h1 h2, .lst h3 h4, z => exact ⟨_, _, _, _, rfl, .inl ⟨.inl (.inl (hide_sub _ _ h1)), .inl (.inl (hide_sub _ _ h3)), outX_now hW1 z _ (walk_zip h1 h2 h3 h4)⟩⟩
      | .tuple _, .none, _, _, z => exact z.elim
      | .tuple _, .bool _, _, _, z => exact z.elim
      | .tuple _, .str _, _, _, z => exact z.elim
      | .tuple _, .int _, _, _, z => exact z.elim
      | .tuple _, .list _, _, _, z => exact z.elim
      | .list _, .none, _, _, z => exact z.elim
      | .list _, .bool _, _, _, z => exact z.elim
      | .list _, .str _, _, _, z => exact z.elim
      | .list _, .int _, _, _, z => exact z.elim
      | .list _, .tuple _, _, _, z => exact z.elim
      | .none, _, _, _, z => exact z.elim
      | .bool _, _, _, _, z => exact z.elim
      | .str _, _, _, _, z => exact z.elim
      | .int _, _, _, _, z => exact z.elim
  | .enum e, sc, fb, tg, x, h, Y, F, a => by
    cases x <;> try (cases tg <;> exact absurd h Bool.false_ne_true)
    rename_i fn xs kw pos
    cases fn <;> try (cases tg <;> exact absurd h Bool.false_ne_true)
    cases tg <;> try (exact absurd h Bool.false_ne_true)
    match xs, kw, h with
    | [y], [], h =>
      simp only [It.chk, Bool.and_eq_true] at h
      obtain ⟨g1, g2, g3, g4⟩ := glo_of a.s h.1
      subst g1
      refine PI.imp (pi_enum g2 (a.ok.g.free "enumerate" (by decide)) (pa_cons (sndE e sc fb _ h.2.2 Y F a) pa_nil (star_cons h.2.1)) (star_cons h.2.1)) fun σ H R q => ?_
      obtain ⟨w, st, env, hE, hW, q⟩ := q
      simp only [It.ev] at q
      refine one_read hE hW q fun p st1 w1 H1 v e1 hE1 hW1 r z => ?_
      cases r with
      | lst h1 h2 => exact ⟨_, _, rfl, .inl (.inl (hide_sub _ _ h1)), outX_now hW1 z _ (walk_enum h1 h2)⟩
      | _ => exact z.elim
termination_by ir => (sizeOf ir, 0)
decreasing_by all_goals (simp_wf; omega)
end
end
end Fb

set_option Elab.async false
set_option linter.all false
set_option maxRecDepth 100000
set_option maxHeartbeats 2000000
/-! statements: places, ends, readings -/
namespace Fb
open PySem PySem.Spec PyProof.Rows L2

section
variable {K : PySem.W.Frag} {w0 w w' : Wo} {H0 H H' : Hp} {env : Env} {σ : L2.St} {st : Sto}
theorem set_other {α : Type} {l : List α} {i j : Nat} {x y : α} (h : (l.set i x)[j]? = some y) (n : x ≠ y) : j ≠ i ∧ l[j]? = some y := by
  by_cases e : i = j
  · subst e
    rw [List.getElem?_set] at h
    simp at h
    exact absurd h.2 n
  · rw [List.getElem?_set_ne e] at h
    exact ⟨fun z => e z.symm, h⟩
/-- a new list of the frame's own -/
theorem EnvOk.ownNew {i : Nat} {p : Addr} {vs : List V} {ps : List PyData} (hE : EnvOk K w0 H0 env w σ H) (d : Wd K st w H) (hp : H p = none) (hl : i < env.length) (r : DqAll K (hide w.B H) vs ps) :
    EnvOk K w0 H0 (env.set i (.own ps)) (w.hold p) (σ.set i (some (.ref p))) (upd H p (.lst vs)) ∧ Wd K st (w.hold p) (upd H p (.lst vs)) ∧ HX w H (w.hold p) (upd H p (.lst vs)) := by
  have x : Ext w H (w.hold p) (upd H p (.lst vs)) := Ext.hold hp
  have d' : Wd K st (w.hold p) (upd H p (.lst vs)) := d.hold hp
  have g := hE.go d x
  have hx := x.hx d
  have nm : p ∉ w.μ := fun z => d.dom p (d.sub p z) hp
  have h0 : H0 p = none := by
    cases q : H0 p with
    | none => rfl
    | some o => exact absurd hp (hE.ext.dom p (by rw [q]; simp))
  have ln : i < σ.length := by rw [← hE.len]; exact hl
  refine ⟨⟨g.ext, by rw [List.length_set, List.length_set]; exact hE.len, fun j y q => ?_, fun j qs q => ?_, fun j k qs rs a q1 q2 q3 q4 => ?_⟩, d', hx⟩
  · obtain ⟨e, q⟩ := set_other q (by simp)
    obtain ⟨u, h1, h2⟩ := g.val j y q
    exact ⟨u, by rw [List.getElem?_set_ne (Ne.symm e)]; exact h1, h2⟩
  · by_cases e : i = j
    · subst e
      rw [List.getElem?_set_self hl] at q
      cases q
      exact ⟨p, vs, List.getElem?_set_self ln, .inr rfl, nm, h0, upd_same, dpAll_mono hx.hid r⟩
    · rw [List.getElem?_set_ne e] at q
      obtain ⟨a, us, h1, h2⟩ := g.own j qs q
      exact ⟨a, us, by rw [List.getElem?_set_ne e]; exact h1, h2⟩
  · have cl : ∀ (j : Nat) (qs : List PyData), j ≠ i → (env.set i (.own ps))[j]? = some (.own qs) → (σ.set i (some (.ref p)))[j]? = some (some (.ref a)) → a ≠ p ∧ env[j]? = some (.own qs) ∧ σ[j]? = some (some (.ref a)) := fun j qs e h1 h2 => by
      rw [List.getElem?_set_ne (Ne.symm e)] at h1 h2
      obtain ⟨b, us, f1, _, _, _, f2, _⟩ := hE.own j qs h1
      rw [f1] at h2
      cases h2
      exact ⟨fun z => (by rw [z, hp] at f2; cases f2), h1, f1⟩
    have at_ : (σ.set i (some (.ref p)))[i]? = some (some (.ref p)) := List.getElem?_set_self ln
    by_cases e1 : j = i
    · by_cases e2 : k = i
      · rw [e1, e2]
      · subst e1
        rw [at_] at q3
        cases q3
        exact absurd rfl (cl k rs e2 q2 q4).1
    · by_cases e2 : k = i
      · subst e2
        rw [at_] at q4
        cases q4
        exact absurd rfl (cl j qs e1 q1 q3).1
      · exact hE.apart j k qs rs a (cl j qs e1 q1 q3).2.1 (cl k rs e2 q2 q4).2.1 (cl j qs e1 q1 q3).2.2 (cl k rs e2 q2 q4).2.2
theorem rep_hide {w : Wo} {H H' : Hp} (e : hide w.B H = hide w.B H') {x : D} {v : V} (r : Rep K w H x v) : Rep K w H' x v := rep_mono ⟨List.prefix_rfl, e ▸ Same.refl _⟩ r
theorem reps_hide {w : Wo} {H H' : Hp} (e : hide w.B H = hide w.B H') {x : List D} {v : List V} (r : Reps K w H x v) : Reps K w H' x v := reps_mono ⟨List.prefix_rfl, e ▸ Same.refl _⟩ r
/-- it grows -/
theorem EnvOk.app {i : Nat} {ps : List PyData} {p : PyData} {v : V} {a : Addr} {vs : List V} (hE : EnvOk K w0 H0 env w σ H) (d : Wd K st w H) (q : env[i]? = some (.own ps)) (h1 : σ[i]? = some (some (.ref a))) (h2 : w.B a) (h3 : a ∉ w.μ) (h4 : H0 a = none)
    (h6 : DqAll K (hide w.B H) vs ps) (r : Dq K (hide w.B H) v p) :
    EnvOk K w0 H0 (env.set i (.own (ps ++ [p]))) w σ (upd H a (.lst (vs ++ [v]))) ∧ Wd K st w (upd H a (.lst (vs ++ [v]))) ∧ HX w H w (upd H a (.lst (vs ++ [v]))) := by
  have eh : hide w.B H = hide w.B (upd H a (.lst (vs ++ [v]))) := (hide_poke h2).symm
  have hl := (List.getElem?_eq_some_iff.mp q).1
  have back : ∀ (j : Nat) (qs : List PyData), (env.set i (.own (ps ++ [p])))[j]? = some (.own qs) → ∃ rs, env[j]? = some (.own rs) ∧ (j ≠ i → rs = qs) ∧ (j = i → qs = ps ++ [p]) := fun j qs z => by
    by_cases e : i = j
    · subst e
      rw [List.getElem?_set_self hl] at z
      cases z
      exact ⟨ps, q, fun z => absurd rfl z, fun _ => rfl⟩
    · rw [List.getElem?_set_ne e] at z
      exact ⟨qs, z, fun _ => rfl, fun z => absurd z.symm e⟩
  refine ⟨⟨hE.ext.poke h4, by rw [List.length_set]; exact hE.len, fun j y z => ?_, fun j qs z => ?_, fun j k qs rs b z1 z2 z3 z4 => ?_⟩, d.poke h2 h3, ⟨List.prefix_rfl, eh ▸ Same.refl _⟩⟩
  · obtain ⟨e, z⟩ := set_other z (by simp)
    obtain ⟨u, f1, f2⟩ := hE.val j y z
    exact ⟨u, f1, rep_hide eh f2⟩
  · obtain ⟨rs, f1, f2, f3⟩ := back j qs z
    obtain ⟨b, us, g1, g2, g3, g4, g5, g6⟩ := hE.own j rs f1
    by_cases e : j = i
    · subst e
      rw [h1] at g1
      cases g1
      rw [f3 rfl]
      exact ⟨a, vs ++ [v], h1, h2, h3, h4, upd_same, eh ▸ h6.append (.cons r .nil)⟩
    · rw [← f2 e]
      refine ⟨b, us, g1, g2, g3, g4, ?_, eh ▸ g6⟩
      rw [upd_ne]
      · exact g5
      · intro z
        subst z
        exact e (hE.apart j i rs ps b f1 q g1 h1)
  · obtain ⟨rs1, f1, _, _⟩ := back j qs z1
    obtain ⟨rs2, f2, _, _⟩ := back k rs z2
    exact hE.apart j k rs1 rs2 b f1 f2 z3 z4
/-- from now on a datum -/
theorem EnvOk.frz {i : Nat} {ps : List PyData} (d0 : ∀ a, w0.B a → H0 a ≠ none) (hE : EnvOk K w0 H0 env w σ H) (d : Wd K st w H) (q : env[i]? = some (.own ps)) :
    ∃ w', EnvOk K w0 H0 (env.set i (.v (lst ps))) w' σ H ∧ Wd K st w' H ∧ HX w H w' H := by
  obtain ⟨a, vs, h1, h2, h3, h4, h5, h6⟩ := hE.own i ps q
  have hl := (List.getElem?_eq_some_iff.mp q).1
  refine ⟨w.free a, ⟨⟨hE.ext.mu, hE.ext.keep, hE.ext.dom, fun b h => ⟨hE.ext.up b h, fun z => d0 b h (z ▸ h4)⟩, fun b h => hE.ext.new b h.1⟩, by rw [List.length_set]; exact hE.len, fun j y z => ?_, fun j qs z => ?_, fun j k qs rs b z1 z2 z3 z4 => ?_⟩, d.free h3, hx_free⟩
  · by_cases e : i = j
    · subst e
      rw [List.getElem?_set_self hl] at z
      cases z
      exact ⟨.ref a, h1, .lst (hide_some.mpr ⟨fun z => z.2 rfl, h5⟩) (dpAll_mono hx_free.hid h6)⟩
    · rw [List.getElem?_set_ne e] at z
      obtain ⟨u, f1, f2⟩ := hE.val j y z
      exact ⟨u, f1, rep_mono hx_free f2⟩
  · obtain ⟨e, z⟩ := set_other z (by simp)
    obtain ⟨b, us, g1, g2, g3, g4, g5, g6⟩ := hE.own j qs z
    refine ⟨b, us, g1, ⟨g2, fun z1 => ?_⟩, g3, g4, g5, dpAll_mono hx_free.hid g6⟩
    subst z1
    exact e (hE.apart j i qs ps b z q g1 h1)
  · exact hE.apart j k qs rs b (set_other z1 (by simp)).2 (set_other z2 (by simp)).2 z3 z4
theorem reps_set : ∀ {xs : List D} {vs : List V} {x : D} {v : V} (j : Nat), Reps K w H xs vs → Rep K w H x v → Reps K w H (xs.set j x) (vs.set j v)
  | [], [], _, _, _, _, _ => trivial
  | _ :: _, _ :: _, _, _, 0, h, r => ⟨r, h.2⟩
  | _ :: _, _ :: _, _, _, j + 1, h, r => ⟨h.1, reps_set j h.2 r⟩
  | [], _ :: _, _, _, _, h, _ => h.elim
  | _ :: _, [], _, _, _, h, _ => h.elim
/-- an item of an object of the store -/
theorem EnvOk.rset {n j : Nat} {a : Addr} {xs : List D} {vs : List V} {x : D} {v : V} (hE : EnvOk K w0 H0 env w σ H) (d : Wd K st w H) (h1 : w.μ[n]? = some a) (q : st[n]? = some (.lst xs)) (h2 : H a = some (.lst vs)) (r : Reps K w H xs vs) (rx : Rep K w H x v) :
    EnvOk K w0 H0 env w σ (upd H a (.lst (vs.set j v))) ∧ Wd K (st.set n (.lst (xs.set j x))) w (upd H a (.lst (vs.set j v))) ∧ HX w H w (upd H a (.lst (vs.set j v))) := by
  have am : a ∈ w.μ := List.mem_of_getElem? h1
  have hB := d.sub a am
  have eh : hide w.B H = hide w.B (upd H a (.lst (vs.set j v))) := (hide_poke hB).symm
  have dm : ∀ b, H b ≠ none → upd H a (.lst (vs.set j v)) b ≠ none := fun b h => by
    by_cases z : b = a
    · rw [z, upd_same]; simp
    · rw [upd_ne z]; exact h
  refine ⟨⟨⟨hE.ext.mu, fun b o h hn => ?_, fun b h => dm b (hE.ext.dom b h), hE.ext.up, hE.ext.new⟩, hE.len, fun i y z => ?_, fun i ps z => ?_, hE.apart⟩, ⟨d.nd, by rw [List.length_set]; exact d.len, d.sub, fun b h => dm b (d.dom b h), fun m o z => ?_⟩, ⟨List.prefix_rfl, eh ▸ Same.refl _⟩⟩
  · rw [upd_ne]
    · exact hE.ext.keep b o h hn
    · intro z
      subst z
      obtain ⟨ν, e1, f1⟩ := hE.ext.mu
      rw [e1] at am
      rcases List.mem_append.mp am with z | z
      · exact hn z
      · rw [f1 b z] at h; cases h
  · obtain ⟨u, f1, f2⟩ := hE.val i y z
    exact ⟨u, f1, rep_hide eh f2⟩
  · obtain ⟨b, us, g1, g2, g3, g4, g5, g6⟩ := hE.own i ps z
    exact ⟨b, us, g1, g2, g3, g4, by rw [upd_ne (fun z => g3 (by rw [z]; exact am))]; exact g5, eh ▸ g6⟩
  · by_cases e : n = m
    · subst e
      have hl := (List.getElem?_eq_some_iff.mp q).1
      rw [List.getElem?_set_self hl] at z
      cases z
      exact ⟨a, h1, _, upd_same, reps_hide eh (reps_set j r rx)⟩
    · rw [List.getElem?_set_ne e] at z
      obtain ⟨b, f1, f2⟩ := d.obs m o z
      refine ⟨b, f1, ?_⟩
      cases o with
      | lst ys =>
        obtain ⟨us, g1, g2⟩ := f2
        refine ⟨us, ?_, reps_hide eh g2⟩
        rw [upd_ne]
        · exact g1
        intro z
        subst z
        refine e ?_
        exact (List.getElem?_inj (List.getElem?_eq_some_iff.mp h1).1 d.nd).mp (h1.trans f1.symm)
end

/-! ### how a statement ends -/
section
variable (K : PySem.W.Frag) (X : XR) (w0 : Wo) (H0 : Hp) (E : XK)
def outS (w : Wo) (H : Hp) (o : Out Fl) (D : Ends) : Prop := match o with
  | .ok (.nx env) st => ∀ w' H' σ, HX w H w' H' → EnvOk K w0 H0 env w' σ H' → Wd K st w' H' → D.nx σ H'
  | .ok (.ret x) st => ∀ w' H' v, Ext w0 H0 w' H' → Wd K st w' H' → Rep K w' H' x v → D.rt v H'
  | .exc c p st => ∀ w' H' cls dx, Ext w0 H0 w' H' → Wd K st w' H' → X c p cls dx H' → E cls dx H'
  | .bad => False
def tS (m : Env → M Fl) : TS := fun D σ H => ∃ (w : Wo) (st : Sto) (env : Env), EnvOk K w0 H0 env w σ H ∧ Wd K st w H ∧ outS K X w0 H0 E w H (m env st) D
end
theorem PS.imp {Y : Cx} {s : Stmt} {t t' : TS} (h : PS Y s t) (i : ∀ D σ H, t' D σ H → t D σ H) : PS Y s t' := ⟨fun pins s σ H D I q => h.run pins s σ H D I (i D σ H q)⟩
theorem PSs.imp {Y : Cx} {s : List Stmt} {t t' : TS} (h : PSs Y s t) (i : ∀ D σ H, t' D σ H → t D σ H) : PSs Y s t' := ⟨fun pins s σ H D I q => h.run pins s σ H D I (i D σ H q)⟩
section
variable {K : PySem.W.Frag} {X : XR} {w0 w w1 : Wo} {H0 H H1 : Hp} {E : XK} {D : Ends} {α : Type} {σ : L2.St} {env : Env} {st : Sto}
theorem outS_mono {o : Out Fl} (e : HX w H w1 H1) (h : outS K X w0 H0 E w H o D) : outS K X w0 H0 E w1 H1 o D := by
  cases o with
  | ok f st =>
    cases f with
    | nx env => exact fun w' H' σ x => h w' H' σ (e.trans x)
    | ret x => exact h
  | exc c p st => exact h
  | bad => exact h
theorem outS_bind {m : M α} {f : α → M Fl} (hE : EnvOk K w0 H0 env w σ H) (hW : Wd K st w H) (h : outS K X w0 H0 E w H (M.bind m f st) D) : outX K X E w H (m st) fun a st1 w1 H1 => outS K X w0 H0 E w1 H1 (f a st1) D := by
  unfold M.bind at h
  cases q : m st with
  | ok a st1 =>
    rw [q] at h
    exact fun w1 H1 e d => outS_mono (e.hx hW) h
  | exc c p st1 =>
    rw [q] at h
    exact fun w' H' cls dx e d x => h w' H' cls dx (hE.ext.trans e) d x
  | bad =>
    rw [q] at h
    exact h
theorem outS_lift {β : Type} {o : Option β} {f : β → M Fl} (h : outS K X w0 H0 E w H (M.bind (M.lift o) f st) D) : ∃ a, o = some a ∧ outS K X w0 H0 E w H (f a st) D := by
  cases o with
  | none => exact h.elim
  | some a => exact ⟨a, rfl, h⟩
theorem outS_need {x : Fb.D} {f : PyData → M Fl} (h : outS K X w0 H0 E w H (need x f st) D) : ∃ p, x = .d p ∧ outS K X w0 H0 E w H (f p st) D := by
  cases x with
  | d p => exact ⟨p, rfl, h⟩
  | ref n => exact h.elim
  | scr ns => exact h.elim
theorem sE_go {m : Env → M Fb.D} {f : Fb.D → M Fl} {R : VK} (hE : EnvOk K w0 H0 env w σ H) (hW : Wd K st w H) (h : outS K X w0 H0 E w H (M.bind (m env) f st) D)
    (g : ∀ x st1 w1 H1 v, Ext w H w1 H1 → EnvOk K w0 H0 env w1 σ H1 → Wd K st1 w1 H1 → Rep K w1 H1 x v → outS K X w0 H0 E w1 H1 (f x st1) D → R v H1) : tE K X w0 H0 E m σ H R :=
  ⟨w, st, env, hE, hW, outX_imp (outS_bind hE hW h) fun x st1 w1 H1 e d q v r => g x st1 w1 H1 v e (hE.go hW e) d r q⟩
theorem sT_go {m : Env → M Bool} {f : Bool → M Fl} {R : Bool → Hp → Prop} (hE : EnvOk K w0 H0 env w σ H) (hW : Wd K st w H) (h : outS K X w0 H0 E w H (M.bind (m env) f st) D)
    (g : ∀ x st1 w1 H1, Ext w H w1 H1 → EnvOk K w0 H0 env w1 σ H1 → Wd K st1 w1 H1 → outS K X w0 H0 E w1 H1 (f x st1) D → R x H1) : tT K X w0 H0 E m σ H R :=
  ⟨w, st, env, hE, hW, outX_imp (outS_bind hE hW h) fun x st1 w1 H1 e d q => g x st1 w1 H1 e (hE.go hW e) d q⟩
theorem sA_go {m : Env → M (List Fb.D)} {f : List Fb.D → M Fl} {R : List V → Hp → Prop} (hE : EnvOk K w0 H0 env w σ H) (hW : Wd K st w H) (h : outS K X w0 H0 E w H (M.bind (m env) f st) D)
    (g : ∀ xs st1 w1 H1 vs, Ext w H w1 H1 → EnvOk K w0 H0 env w1 σ H1 → Wd K st1 w1 H1 → Reps K w1 H1 xs vs → outS K X w0 H0 E w1 H1 (f xs st1) D → R vs H1) : tA K X w0 H0 E m σ H R :=
  ⟨w, st, env, hE, hW, outX_imp (outS_bind hE hW h) fun x st1 w1 H1 e d q v r => g x st1 w1 H1 v e (hE.go hW e) d r q⟩
/-- one statement, then the rest -/
theorem outS_seq {o : Out Fl} {f : Env → M Fl} (h : outS K X w0 H0 E w H (match o with
    | .ok (.nx env') st' => f env' st'
    | .ok (.ret v) st' => .ok (.ret v) st'
    | .exc c p st' => .exc c p st'
    | .bad => .bad) D) : outS K X w0 H0 E w H o { D with nx := fun σ' H' => ∃ w' st' env', HX w H w' H' ∧ EnvOk K w0 H0 env' w' σ' H' ∧ Wd K st' w' H' ∧ outS K X w0 H0 E w' H' (f env' st') D } := by
  cases o with
  | ok r st =>
    cases r with
    | nx env' => exact fun w' H' σ x e d => ⟨w', _, _, x, e, d, outS_mono x h⟩
    | ret x => exact h
  | exc c p st => exact h
  | bad => exact h
end
end Fb

set_option Elab.async false
set_option linter.all false
set_option maxRecDepth 100000
set_option maxHeartbeats 4000000
/-! what the check is worth: statements -/
namespace Fb
open PySem PySem.Spec PyProof.Rows L2

/-! ### the check -/
def plainV : Expr → Bool
  | .ListComp _ _ _ _ => false
  | .SetComp _ _ _ _ => false
  | .DictComp _ _ _ _ _ => false
  | _ => true
def swNone (ts vs : List Expr) : Bool := !(ts.length == 2 || ts.length == 3) || (vs.length != ts.length || (!(vs.any fun | .Starred .. => true | _ => false) && vs.all (foldedForSure 8)))
def asgOk : Expr → Expr → Bool
  | .Name _ _, x => (match x with
    | .SetComp _ _ _ _ => false
    | .DictComp _ _ _ _ _ => false
    | _ => true)
  | .Tuple ts _ _, x => (match x with
    | .Tuple vs _ _ => swNone ts vs
    | _ => plainV x)
  | _, _ => false
def par2 (N : List Str) (sc : Scope) (i : Nat) : Expr → Nat → Bool
  | .Name x p, l => decide (N[i]? = some x) && (decide (sc.names.lookup x = some .local) && decide (p.line = l))
  | _, _ => false
def lineOf (e : Expr) : Nat := e.pos.line
def parOk (N : List Str) (sc : Scope) : List Nat → List Expr → List Expr → Bool
  | [i, j], [a, b], vs => decide (vs.length = 2) && (decide (i ≠ j) && (par2 N sc i a (lineOf a) && (par2 N sc j b (lineOf a) && (!(vs.all (foldedForSure 8)) && (!(vs.all (constantsAlone 8)) && vs.all plainE)))))
  | [i, j, l], [a, b, c], vs => decide (vs.length = 3) && (decide (i ≠ j) && (decide (i ≠ l) && (decide (j ≠ l) && (par2 N sc i a (lineOf a) && (par2 N sc j b (lineOf a) && (par2 N sc l c (lineOf a) && (!(vs.all (foldedForSure 8)) && (!(vs.all (constantsAlone 8)) && vs.all plainE))))))))
  | _, _, _ => false
/-- the flagged ones are lists as they stand -/
def xsOk : Es → List Bool → List Expr → Bool
  | .nil, [], [] => true
  | .cons (.lst _) es, true :: os, .List xs _ :: vs => decide (xs.length ≤ 1000) && xsOk es os vs
  | .cons _ es, false :: os, _ :: vs => xsOk es os vs
  | _, _, _ => false
section
variable (Γ : Info) (N : List Str)
mutual
def S.chk : S → Scope → (Str → Bool) → Stmt → Bool
  | .set t e, sc, fb, .Assign [tg] x _ => t.chk N sc fb tg && (e.chk Γ N sc fb x && asgOk tg x)
  | .par is es, sc, fb, .Assign [.Tuple ts _ _] (.Tuple vs _ _) _ => parOk N sc is ts vs && es.chk Γ N sc fb vs
  | .parO is es os, sc, fb, .Assign [.Tuple ts _ _] (.Tuple vs _ _) _ => parOk N sc is ts vs && xsOk es os vs && es.chk Γ N sc fb vs
  | .own i (.lst es), sc, fb, .Assign [.Name x _] (.List xs _) _ => decide (N[i]? = some x) && (locOk sc fb x && (decide (xs.length ≤ 1000) && es.chk Γ N sc fb xs))
  | .app i e, sc, fb, .Expr (.Call (.Attribute (.Name x _) a apos) [y] [] cpos) _ => decide (N[i]? = some x) && (visOk sc x && (decide (a = ("append" : Str)) && ((apos.endLine == cpos.line) && (plainE y && e.chk Γ N sc fb y))))
  | .rset o i e, sc, fb, .Assign [.Subscript a b _] x _ => noSlice b && (plainV x && (e.chk Γ N sc fb x && (o.chk Γ N sc fb a && i.chk Γ N sc fb b)))
  | .expr e, sc, fb, .Expr x _ => plainV x && e.chk Γ N sc fb x
  | .ret e, sc, fb, .Return (some x) _ => e.chk Γ N sc fb x
  | .retN, _, _, .Return none _ => true
  | .ifs t a b, sc, fb, .If c p q _ => t.chk Γ N sc fb c && (a.chk sc fb p && b.chk sc fb q)
  | .for_ it t b, sc, fb, .For tg iter body [] _ => it.chk Γ N sc fb tg iter && (t.chk N sc fb tg && b.chk sc fb body)
  | .while_ t b, sc, fb, .While c body [] _ => t.chk Γ N sc fb c && b.chk sc fb body
  | .raise c m, sc, _, .Raise (some (.Call (.Name x _) [.Constant (.str s) _ _] [] _)) none _ => Γ.exs c && (gloOk sc x c && decide (s = Str.ofString m))
  | _, _, _, _ => false
def Ss.chk : Ss → Scope → (Str → Bool) → List Stmt → Bool
  | .nil, _, _, [] => true
  | .cons (.frz i) ss, sc, fb, sts => ss.chk sc fb sts
  | .cons s ss, sc, fb, st :: sts => s.chk sc fb st && ss.chk sc fb sts
  | _, _, _, _ => false
end
end

/-! ### assignments -/
theorem swaps_plain {x : Expr} {t : Option Expr} {n : Nat} {env : PySem.Env} (h : plainV x = true) : swapsWith x t n env = pure false := by
  cases x <;> first | rfl | exact absurd h Bool.false_ne_true
theorem swaps_tuple {x : Expr} {ts : List Expr} {k : Nat} {p : Pos} {n : Nat} {env : PySem.Env} : swapsWith x (some (.Tuple ts k p)) n env = pure false := by
  cases x <;> rfl
theorem swapped_name {x : Expr} {n : Str} {p : Pos} {env : PySem.Env} : swappedStores [.Name n p] x env = pure none := by
  cases x <;> rfl
theorem swapped_plain {x : Expr} {ts : List Expr} {k : Nat} {p : Pos} {env : PySem.Env} (h : ∀ vs k' p', x ≠ .Tuple vs k' p') : swappedStores [.Tuple ts k p] x env = pure none := by
  cases x <;> first | rfl | exact absurd rfl (h _ _ _)
theorem swapped_none {ts vs : List Expr} {k k' : Nat} {p p' : Pos} {env : PySem.Env} (h : swNone ts vs = true) : swappedStores [.Tuple ts k p] (.Tuple vs k' p') env = pure none := by
  unfold swNone at h
  simp only [Bool.or_eq_true, Bool.and_eq_true] at h
  unfold swappedStores
  simp only
  split
  · rfl
  · rename_i h1
    simp only [Bool.or_eq_true, not_or] at h1
    rcases h with h | h | h
    · exact absurd h h1.1.1
    · exact absurd h h1.1.2
    · split
      · rfl
      · split
        · rfl
        · rw [if_pos h.2]

/-- where one stands in a def's body -/
structure AtS (Γ : Info) (Φ : Calls) (X : XR) (k : Nat) (N : List Str) (sc : Scope) (fb : Str → Bool) (w0 : Wo) (H0 : Hp) (Y : Cx) (E : XK) : Prop where
  a : At Γ Φ X k N sc fb Y E
  tk : Takes Y (fun cls d _ H => E cls d H)
  po : PassesOwn (model Y.prog Y.w) Y.A Y.env Y.xe
  d0 : ∀ b, w0.B b → H0 b ≠ none
  kind : sc.kind = .function
  ex : ∀ c m C H, Γ.exs c = true → Y.mg (Str.ofString c) = some (.ref C) → X c (.str m) (.ref C) none H
section
variable {Γ : Info} {Φ : Calls} {X : XR} {k : Nat} {N : List Str} {sc : Scope} {fb : Str → Bool} {w0 : Wo} {H0 : Hp} {Y : Cx} {F : XK}
/-- target = value -/
theorem set_read {t : T} {e : Fb.E} {pos : Pos} {tg x : Expr} (A : AtS Γ Φ X k N sc fb w0 H0 Y F) {D : Ends} {σ : L2.St} {H : Hp} (q : tS Y.K X w0 H0 F ((S.set t e).ev Φ Γ.con) D σ H) : tAsg (tE Y.K X w0 H0 F (e.ev Φ Γ.con)) (tG Y.K w0 H0 t) D σ H := by
  obtain ⟨w, st, env, hE, hW, q⟩ := q
  simp only [S.ev] at q
  exact sE_go hE hW q fun x st1 w1 H1 v e1 hE1 hW1 r z => by
    obtain ⟨env', b, z⟩ := outS_lift z
    exact ⟨w1, st1, env, x, env', hE1, hW1, r, b, fun σ' hE2 _ _ => z w1 H1 σ' HX.refl hE2 hW1⟩
/-- the parts of a list comprehension -/
theorem lc_parts {own : List Nat} {g : G} {sc : Scope} {fb : Str → Bool} {elt : Expr} {gs : List Comprehension} {scope : Scope} {pos : Pos} {Y : Cx} {F : XK} (h : (Fb.E.lc own g).chk Γ N sc fb (.ListComp elt gs scope pos) = true) (a : At Γ Φ X k N sc fb Y F) :
    ∃ (tg iter : Expr) (ifs : List Expr) (t : T) (te : TE) (tt : TT) (wi : TI), gs = [⟨tg, iter, ifs, 0⟩] ∧ PI Y tg iter wi ∧ BlkOk Y.N Y.env.scope scope (ownN N own) ∧
      (∀ (s : Shared) (H : Hp) (C : Addr) (cl : List (Str × Addr)) (fp : List Addr), PG (Y.blk s H scope (compEnvC scope cl C Y.env) fp) tg (tG Y.K w0 H0 t)) ∧
      (∀ (s : Shared) (H : Hp) (C : Addr) (cl : List (Str × Addr)) (fp : List Addr), PTs (Y.blk s H scope (compEnvC scope cl C Y.env) fp) ifs tt) ∧
      (∀ (s : Shared) (H : Hp) (C : Addr) (cl : List (Str × Addr)) (fp : List Addr), PE (Y.blk s H scope (compEnvC scope cl C Y.env) fp) elt te) ∧
      (∀ v, foldedSetIterable iter Y.env v = pure v) ∧ ∀ σ H Q, tE Y.K X w0 H0 F ((Fb.E.lc own g).ev Φ Γ.con) σ H Q → tLc wi (tG Y.K w0 H0 t) tt te ((ownN N own).map (·.2)) σ H Q := by
  simp only [E.chk, Bool.and_eq_true, decide_eq_true_eq] at h
  obtain ⟨h1, h2, h3⟩ := h
  match g, h3 with
  | .gen it t c (.fin x), h3 =>
    obtain ⟨tg, iter, ifs, eg, h4⟩ := chk0_inv h3
    subst eg
    simp only [G.chkF, Bool.and_eq_true] at h4
    obtain ⟨g1, g2, g3, g4, g5⟩ := h4
    have B := blkOk_by (N := N) (sc := sc) h2
    rw [← a.n, ← a.s] at B
    have hcalm := a.ok.calm
    have inn : ∀ (s : Shared) (H : Hp) (C : Addr) (cl : List (Str × Addr)) (fp : List Addr), At Γ Φ X k N (relS scope sc) (fun x => scope.names.lookup x == some .cell) (Y.blk s H scope (compEnvC scope cl C Y.env) fp) noE := fun s H C cl fp =>
      ⟨a.ok.blk s H scope _ fp, a.n, by rw [← a.s]; rfl, rfl⟩
    refine ⟨tg, iter, ifs, t, tE Y.K X w0 H0 noE (x.ev Φ Γ.con), tT Y.K X w0 H0 noE (c.ok Φ Γ.con), tI Y.K X w0 H0 F (it.ev Φ Γ.con), rfl, sndI it sc fb tg iter g1 Y F a, by rw [← a.n]; exact B,
      (fun s H C cl fp => sndT rfl (inn s H C cl fp).n a.ok.nd (inn s H C cl fp).s rfl hcalm t tg g2), (fun s H C cl fp => sndL c _ _ ifs g4 _ noE (inn s H C cl fp)), (fun s H C cl fp => sndE x _ _ elt g5 _ noE (inn s H C cl fp)), itNo g1, fun σ H Q q => ?_⟩
    obtain ⟨w, st, env, hE, hW, q⟩ := q
    simp only [E.ev, G.ev] at q
    rw [ownN_ix]
    exact lc_read (fun i hi => by
      have := List.all_eq_true.mp g3 i hi
      simpa using this) hE hW q
  | .gen it t c (.gen _ _ _ _), h3 =>
    obtain ⟨tg, iter, ifs, eg, h4⟩ := chk0_inv h3
    simp [G.chkF] at h4
  | .fin _, h3 => exact absurd h3 Bool.false_ne_true
theorem swaps_lc {elt : Expr} {gs : List Comprehension} {scope : Scope} {p2 : Pos} {y : Str} {py : Pos} {n : Nat} {env : PySem.Env} :
    swapsWith (.ListComp elt gs scope p2) (some (.Name y py)) n env = pure (env.blockKind == .function && env.kindOf y == some .local && py.line == p2.line && !(scope.names.any fun (n, k) => n == y && (k == .local || k == .cell))) := rfl
theorem set_snd {t : T} {e : Fb.E} {pos : Pos} {tg x : Expr} (A : AtS Γ Φ X k N sc fb w0 H0 Y F) (h1 : t.chk N sc fb tg = true) (h2 : e.chk Γ N sc fb x = true) (h3 : asgOk tg x = true) : PS Y (.Assign [tg] x pos) (tS Y.K X w0 H0 F ((S.set t e).ev Φ Γ.con)) := by
  have a := A.a
  have he := sndE (w0 := w0) (H0 := H0) e sc fb x h2 Y F a
  have hg : PG Y tg (tG Y.K w0 H0 t) := sndT rfl a.n a.ok.nd a.s a.f a.ok.calm t tg h1
  have ho : (assignEach [tg] Y.env).map (·.2) = [assign tg Y.env] := by
    unfold asgOk at h3
    split at h3
    · rfl
    · rfl
    · cases h3
  have go : swapsWith x (some tg) pos.line Y.env = pure false → swappedStores [tg] x Y.env = pure none → PS Y (.Assign [tg] x pos) (tS Y.K X w0 H0 F ((S.set t e).ev Φ Γ.con)) := fun s1 s2 =>
    PS.imp (ps_asg he hg s1 s2 ho) fun D σ H q => set_read A (pos := pos) (tg := tg) (x := x) q
  cases tg <;> try (exact absurd h3 Bool.false_ne_true)
  · rename_i y py
    by_cases hp : plainV x = true
    · exact go (swaps_plain hp) swapped_name
    · cases x <;> first | exact absurd rfl hp | exact absurd h3 Bool.false_ne_true | skip
      rename_i elt gs scope p2
      cases sw : (Y.env.blockKind == .function && Y.env.kindOf y == some .local && py.line == p2.line && !(scope.names.any fun (n, k) => n == y && (k == .local || k == .cell))) with
      | false => exact go (by rw [swaps_lc, sw]) swapped_name
      | true =>
        match e, h2 with
        | .lc own g, h2 =>
          obtain ⟨tg, iter, ifs, t', te, tt, wi, eg, p1, p2, p3, p4, p5, p6, p7⟩ := lc_parts (w0 := w0) (H0 := H0) h2 a
          subst eg
          match t, h1 with
          | .nm i, h1 =>
            simp only [T.chk, Bool.and_eq_true, decide_eq_true_eq] at h1
            have hl : Y.env.scope.names.lookup y = some .local := by
              simp only [Bool.and_eq_true, beq_iff_eq] at sw
              exact sw.1.1.2
            refine PS.imp (ps_setLc a.ok.calm a.ok.nd (by rw [a.n]; exact h1.1) hl (by rw [swaps_lc, sw]) p1 p2 p3 p4 p5 p6) fun D σ H q => ?_
            have q2 : tE Y.K X w0 H0 F ((Fb.E.lc own g).ev Φ Γ.con) σ H fun x H1 => gName i x σ H1 D.nx := by
              obtain ⟨w, st, env, hE, hW, q⟩ := q
              simp only [S.ev] at q
              exact sE_go hE hW q fun x st1 w1 H1 v e1 hE1 hW1 r z => by
                obtain ⟨env', b, z⟩ := outS_lift z
                unfold T.bind at b
                split at b
                · cases b
                  exact z w1 H1 _ HX.refl (hE1.setV r) hW1
                · cases b
            exact p7 _ _ _ q2
  · rename_i ts kk p
    refine go swaps_tuple ?_
    by_cases hx : ∃ vs k' p', x = .Tuple vs k' p'
    · obtain ⟨vs, k', p', rfl⟩ := hx
      exact swapped_none h3
    · exact swapped_plain fun vs k' p' z => hx ⟨vs, k', p', z⟩
end
end Fb

set_option Elab.async false
set_option linter.all false
set_option maxRecDepth 100000
set_option maxHeartbeats 4000000
/-! several names at once, lists of the frame's own among what is stored -/
namespace Fb
open PySem PySem.Spec PyProof.Rows L2
section
variable {K : PySem.W.Frag} {w0 w : Wo} {H0 H : Hp} {env env' : Env} {σ σ' : L2.St} {st : Sto}
theorem EnvOk.pick (h : EnvOk K w0 H0 env w σ H) (f : Nat → Nat) (inj : ∀ i j, i < env'.length → j < env'.length → f i = f j → i = j) (len : env'.length = σ'.length) (he : ∀ i, i < env'.length → env'[i]? = env[f i]? ∧ σ'[i]? = σ[f i]?) : EnvOk K w0 H0 env' w σ' H := by
  have lt : ∀ {i : Nat} {s : Sl}, env'[i]? = some s → i < env'.length := fun h => (List.getElem?_eq_some_iff.mp h).1
  refine ⟨h.ext, len, fun i x q => ?_, fun i ps q => ?_, fun i j ps qs a q1 q2 q3 q4 => ?_⟩
  · obtain ⟨e1, e2⟩ := he i (lt q)
    obtain ⟨v, h1, h2⟩ := h.val (f i) x (e1 ▸ q)
    exact ⟨v, by rw [e2]; exact h1, h2⟩
  · obtain ⟨e1, e2⟩ := he i (lt q)
    obtain ⟨a, vs, h1, h2⟩ := h.own (f i) ps (e1 ▸ q)
    exact ⟨a, vs, by rw [e2]; exact h1, h2⟩
  · obtain ⟨e1, e2⟩ := he i (lt q1)
    obtain ⟨e3, e4⟩ := he j (lt q2)
    exact inj i j (lt q1) (lt q2) (h.apart (f i) (f j) ps qs a (e1 ▸ q1) (e3 ▸ q2) (e2 ▸ q3) (e4 ▸ q4))
theorem EnvOk.pushUn (h : EnvOk K w0 H0 env w σ H) (x : Option V) : EnvOk K w0 H0 (env ++ [.un]) w (σ ++ [x]) H := by
  have at_ : ∀ {i : Nat} {s : Sl}, s ≠ .un → (env ++ [.un])[i]? = some s → i < env.length ∧ env[i]? = some s := fun {i s} hs q => by
    by_cases l : i < env.length
    · rw [List.getElem?_append_left l] at q
      exact ⟨l, q⟩
    · rw [List.getElem?_append_right (by omega)] at q
      cases z : i - env.length with
      | zero => rw [z] at q; simp at q; exact absurd q.symm hs
      | succ n => rw [z] at q; simp at q
  refine ⟨h.ext, by simp [h.len], fun i x q => ?_, fun i ps q => ?_, fun i j ps qs a q1 q2 q3 q4 => ?_⟩
  · obtain ⟨l, q⟩ := at_ (by simp) q
    obtain ⟨v, h1, h2⟩ := h.val i x q
    exact ⟨v, by rw [List.getElem?_append_left (by rw [← h.len]; exact l)]; exact h1, h2⟩
  · obtain ⟨l, q⟩ := at_ (by simp) q
    obtain ⟨a, vs, h1, h2⟩ := h.own i ps q
    exact ⟨a, vs, by rw [List.getElem?_append_left (by rw [← h.len]; exact l)]; exact h1, h2⟩
  · obtain ⟨l1, q1⟩ := at_ (by simp) q1
    obtain ⟨l2, q2⟩ := at_ (by simp) q2
    rw [List.getElem?_append_left (by rw [← h.len]; exact l1)] at q3
    rw [List.getElem?_append_left (by rw [← h.len]; exact l2)] at q4
    exact h.apart i j ps qs a q1 q2 q3 q4
theorem set_last {α : Type} (l : List α) (x y : α) : (l ++ [x]).set l.length y = l ++ [y] := by
  rw [List.set_append_right _ _ (Nat.le_refl _)]
  simp
theorem EnvOk.pushV {x : D} {v : V} (h : EnvOk K w0 H0 env w σ H) (r : Rep K w H x v) : EnvOk K w0 H0 (env ++ [.v x]) w (σ ++ [some v]) H := by
  have := (h.pushUn none).setV (i := env.length) r
  rw [set_last, h.len, set_last] at this
  exact this
theorem EnvOk.pushOwn {p : Addr} {vs : List V} {ps : List PyData} (h : EnvOk K w0 H0 env w σ H) (d : Wd K st w H) (hp : H p = none) (r : DqAll K (hide w.B H) vs ps) :
    EnvOk K w0 H0 (env ++ [.own ps]) (w.hold p) (σ ++ [some (.ref p)]) (upd H p (.lst vs)) ∧ Wd K st (w.hold p) (upd H p (.lst vs)) := by
  obtain ⟨g1, g2, _⟩ := (h.pushUn none).ownNew (i := env.length) d hp (by simp) r
  rw [set_last, h.len, set_last] at g1
  exact ⟨g1, g2⟩
theorem EnvOk.front {ss : List Sl} {us : L2.St} (h : EnvOk K w0 H0 (env ++ ss) w (σ ++ us) H) (hl : env.length = σ.length) : EnvOk K w0 H0 env w σ H :=
  h.pick (fun i => i) (fun _ _ _ _ e => e) hl fun i hi => ⟨by rw [List.getElem?_append_left hi], by rw [List.getElem?_append_left (by rw [← hl]; exact hi)]⟩
end
section
variable (K : PySem.W.Frag) (X : XR) (w0 : Wo) (H0 : Hp) (E : XK)
/-- what is stored, one behind the other; what was reckoned already stands behind the names -/
def tX (m : Env → M (List Sl)) : TA := fun σ H Q => ∃ (w : Wo) (st : Sto) (env : Env) (ss0 : List Sl) (us0 : List V), env.length = σ.length ∧ EnvOk K w0 H0 (env ++ ss0) w (σ ++ us0.map some) H ∧ Wd K st w H ∧
  outX K X E w H (m env st) fun ss st' w' H' => Wd K st' w' H' → ∀ vs, EnvOk K w0 H0 (env ++ (ss0 ++ ss)) w' (σ ++ (us0 ++ vs).map some) H' → Q vs H'
end
section
variable {Γ : Info} {Φ : Calls} {X : XR} {k : Nat} {N : List Str} {sc : Scope} {fb : Str → Bool} {w0 : Wo} {H0 : Hp} {Y : Cx} {F : XK}
def slotsM (Φ : Calls) (C : Cons) (es : Es) (os : List Bool) (env : Env) : M (List Sl) := M.bind (es.ev Φ C env) fun xs => M.lift (slotsOf os xs)
theorem slots_cons {es : Es} {os : List Bool} {o : Bool} {x : Fb.D} {s : Sl} {C : Cons} {env : Env} (h : slotOf o x = some s) : M.bind (es.ev Φ C env) (fun xs => M.lift (slotsOf (o :: os) (x :: xs))) = M.bind (slotsM Φ C es os env) fun ss => M.pure (s :: ss) := by
  unfold slotsM
  rw [M.bind_bind]
  refine congrArg (M.bind (es.ev Φ C env)) (funext fun xs => ?_)
  show M.lift ((slotOf o x).bind fun s => (slotsOf os xs).map (s :: ·)) = _
  rw [h]
  cases slotsOf os xs <;> rfl
theorem tX_cons {K : PySem.W.Frag} {E : XK} {es : Es} {os : List Bool} {o : Bool} {x : Fb.D} {s : Sl} {v : V} {C : Cons} {env : Env} {ss0 : List Sl} {us0 : List V} {w : Wo} {H : Hp} {st : Sto} {σ : L2.St} {Q : List V → Hp → Prop} (hs : slotOf o x = some s) (hl : env.length = σ.length)
    (hE : EnvOk K w0 H0 (env ++ ss0 ++ [s]) w (σ ++ us0.map some ++ [some v]) H) (hW : Wd K st w H)
    (q : outX K X E w H (M.bind (es.ev Φ C env) (fun xs => M.lift (slotsOf (o :: os) (x :: xs))) st) fun ss st' w' H' => Wd K st' w' H' → ∀ vs, EnvOk K w0 H0 (env ++ (ss0 ++ ss)) w' (σ ++ (us0 ++ vs).map some) H' → Q vs H') :
    tX K X w0 H0 E (slotsM Φ C es os) σ H fun vs H' => Q (v :: vs) H' := by
  rw [slots_cons hs] at q
  refine ⟨w, st, env, ss0 ++ [s], us0 ++ [v], hl, ?_, hW, outX_imp (outX_bind q) fun ss st1 w1 H1 e1 d1 z hW1 vs hE1 => ?_⟩
  · rw [List.map_append, ← List.append_assoc, ← List.append_assoc]
    exact hE
  · refine outX_now d1 z hW1 (v :: vs) ?_
    rw [show ss0 ++ s :: ss = ss0 ++ [s] ++ ss by simp, show us0 ++ v :: vs = us0 ++ [v] ++ vs by simp]
    exact hE1
theorem sndX (a : At Γ Φ X k N sc fb Y F) : ∀ (es : Es) (os : List Bool) (vs : List Expr), xsOk es os vs = true → es.chk Γ N sc fb vs = true → PA Y vs (tX Y.K X w0 H0 F (slotsM Φ Γ.con es os))
  | .nil, os, vs, h, hc => by
    cases os <;> cases vs <;> try (exact absurd h Bool.false_ne_true)
    refine PA.imp pa_nil fun σ H Q q => ?_
    obtain ⟨w, st, env, ss0, us0, hl, hE, hW, q⟩ := q
    have q := outX_now hW q hW [] (by simpa using hE)
    exact q
  | .cons e es, true :: os, v :: vs, h, hc => by
    match e, v, h, hc with
    | .lst es', .List xs p, h, hc =>
      simp only [xsOk, Bool.and_eq_true, decide_eq_true_eq] at h
      simp only [Es.chk, E.chk, Bool.and_eq_true, decide_eq_true_eq] at hc
      refine PA.imp (pa_cons (pe_lst (sndEs (w0 := w0) (H0 := H0) es' sc fb xs hc.2.1.2 Y F a)) (sndX a es os vs h.2 hc.2.2) (star_cons hc.1)) fun σ H Q q => ?_
      obtain ⟨w, st, env, ss0, us0, hl, hE, hW, q⟩ := q
      unfold slotsM at q
      simp only [Es.ev, E.ev, M.bind_bind] at q
      have hsm := small_es (Φ := Φ) (C := Γ.con) h.1 hc.2.1.2 env
      cases q1 : es'.ev Φ Γ.con env st with
      | ok ys st1 =>
        have q := outX_bind q
        refine ⟨w, st, env, hE.front hl, hW, ?_⟩
        rw [q1] at q ⊢
        intro w1 H1 e1 d1 us r
        have q := q w1 H1 e1 d1
        dsimp only at q
        have hq := hsm _ _ _ q1
        cases b : datas ys with
        | none =>
          rw [b] at q
          exact q.elim
        | some ps =>
          rw [b] at q
          refine ⟨by rw [reps_len r, sizeLine_eq]; omega, fun p hp => ?_⟩
          obtain ⟨g1, g2⟩ := (hE.go hW e1).pushOwn d1 hp (dpAll_of r b)
          have eh : Ext w1 H1 (w1.hold p) (upd H1 p (.lst us)) := Ext.hold hp
          refine tX_cons (o := true) (x := .d (.list ps)) (s := .own ps) rfl hl g1 g2 (outX_mono eh ?_)
          simpa using q
      | exc c p st1 =>
        unfold M.bind at q
        rw [q1] at q
        exact ⟨w, st, env, hE.front hl, hW, by rw [q1]; exact q⟩
      | bad =>
        unfold M.bind at q
        rw [q1] at q
        exact q.elim
  | .cons e es, false :: os, v :: vs, h, hc => by
    have h : xsOk es os vs = true := by
      cases e <;> first | exact h | (cases v <;> exact h)
    simp only [Es.chk, Bool.and_eq_true] at hc
    refine PA.imp (pa_cons (sndE (w0 := w0) (H0 := H0) e sc fb v hc.2.1 Y F a) (sndX a es os vs h hc.2.2) (star_cons hc.1)) fun σ H Q q => ?_
    obtain ⟨w, st, env, ss0, us0, hl, hE, hW, q⟩ := q
    unfold slotsM at q
    simp only [Es.ev, M.bind_bind] at q
    refine tE_go (hE.front hl) hW q fun x st1 w1 H1 v e1 hE1 hW1 r z => ?_
    exact tX_cons (o := false) (x := x) (s := .v x) rfl hl ((hE.go hW e1).pushV r) hW1 (by simpa using z)
  | .cons e _, [], vs, h, _ => by
    cases e <;> cases vs <;> exact absurd h Bool.false_ne_true
  | .cons e _, o :: _, [], h, _ => by
    cases e <;> cases o <;> exact absurd h Bool.false_ne_true
theorem putMany2 {i j : Nat} {xs : List Sl} {env env' : Env} (h : putMany [i, j] xs env = some env') : i < env.length ∧ j < env.length ∧ ∃ x y, xs = [x, y] ∧ env' = (env.set i x).set j y := by
  match xs, h with
  | [x, y], h =>
    simp only [putMany] at h
    split at h
    · split at h
      · rename_i h1 h2
        rw [List.length_set] at h2
        cases h; exact ⟨h1, h2, x, y, rfl, rfl⟩
      · cases h
    · cases h
  | [], h => cases h
  | [x], h =>
    simp only [putMany] at h
    split at h <;> cases h
  | x :: y :: z :: r, h =>
    simp only [putMany] at h
    split at h
    · split at h <;> cases h
    · cases h
theorem putMany3 {i j l : Nat} {xs : List Sl} {env env' : Env} (h : putMany [i, j, l] xs env = some env') : i < env.length ∧ j < env.length ∧ l < env.length ∧ ∃ x y z, xs = [x, y, z] ∧ env' = ((env.set i x).set j y).set l z := by
  match xs, h with
  | [x, y, z], h =>
    simp only [putMany] at h
    split at h
    · split at h
      · split at h
        · rename_i h1 h2 h3
          simp only [List.length_set] at h2 h3
          cases h; exact ⟨h1, h2, h3, x, y, z, rfl, rfl⟩
        · cases h
      · cases h
    · cases h
  | [], h => cases h
  | [x], h =>
    simp only [putMany] at h
    split at h <;> cases h
  | [x, y], h =>
    simp only [putMany] at h
    split at h
    · split at h <;> cases h
    · cases h
  | x :: y :: z :: u :: r, h =>
    simp only [putMany] at h
    split at h
    · split at h
      · split at h <;> cases h
      · cases h
    · cases h
theorem EnvOk.put2 {K : PySem.W.Frag} {w : Wo} {H : Hp} {env : Env} {σ : L2.St} {i j : Nat} {s t : Sl} {u v : V} (h : EnvOk K w0 H0 (env ++ [s, t]) w (σ ++ [some u, some v]) H) (hl : env.length = σ.length) (hi : i < env.length) (hj : j < env.length) (hij : i ≠ j) :
    EnvOk K w0 H0 ((env.set i s).set j t) w ((σ.set i (some u)).set j (some v)) H := by
  refine h.pick (fun k => if k = i then env.length else if k = j then env.length + 1 else k) (fun a b ha hb e => ?_) (by simp [hl]) fun a ha => ?_
  · simp only [List.length_set] at ha hb
    try dsimp only at e
    split at e <;> split at e <;> (try split at e) <;> (try split at e) <;> omega
  · simp only [List.length_set] at ha
    by_cases e1 : a = i
    · subst e1
      simp only [if_true]
      rw [List.getElem?_set_ne (Ne.symm hij), List.getElem?_set_self hi, List.getElem?_set_ne (Ne.symm hij), List.getElem?_set_self (by omega)]
      rw [List.getElem?_append_right (by omega), List.getElem?_append_right (by omega)]
      simp [hl]
    · by_cases e2 : a = j
      · subst e2
        simp only [e1, if_false, if_true]
        rw [List.getElem?_set_self (by simpa using hj), List.getElem?_set_self (by simp; omega)]
        rw [List.getElem?_append_right (by omega), List.getElem?_append_right (by omega)]
        simp [hl]
      · simp only [e1, e2, if_false]
        rw [List.getElem?_set_ne (Ne.symm e2), List.getElem?_set_ne (Ne.symm e1), List.getElem?_set_ne (Ne.symm e2), List.getElem?_set_ne (Ne.symm e1)]
        rw [List.getElem?_append_left (by omega), List.getElem?_append_left (by omega)]
        exact ⟨rfl, rfl⟩
theorem EnvOk.put3 {K : PySem.W.Frag} {w : Wo} {H : Hp} {env : Env} {σ : L2.St} {i j l : Nat} {s t r : Sl} {u v x : V} (h : EnvOk K w0 H0 (env ++ [s, t, r]) w (σ ++ [some u, some v, some x]) H) (hl : env.length = σ.length) (hi : i < env.length) (hj : j < env.length) (hk : l < env.length) (hij : i ≠ j) (hil : i ≠ l) (hjl : j ≠ l) :
    EnvOk K w0 H0 (((env.set i s).set j t).set l r) w (((σ.set i (some u)).set j (some v)).set l (some x)) H := by
  refine h.pick (fun k => if k = i then env.length else if k = j then env.length + 1 else if k = l then env.length + 2 else k) (fun a b ha hb e => ?_) (by simp [hl]) fun a ha => ?_
  · simp only [List.length_set] at ha hb
    try dsimp only at e
    split at e <;> split at e <;> (try split at e) <;> (try split at e) <;> (try split at e) <;> (try split at e) <;> omega
  · simp only [List.length_set] at ha
    by_cases e1 : a = i
    · subst e1
      simp only [if_true]
      rw [List.getElem?_set_ne (Ne.symm hil), List.getElem?_set_ne (Ne.symm hij), List.getElem?_set_self hi, List.getElem?_set_ne (Ne.symm hil), List.getElem?_set_ne (Ne.symm hij), List.getElem?_set_self (by omega)]
      rw [List.getElem?_append_right (by omega), List.getElem?_append_right (by omega)]
      simp [hl]
    · by_cases e2 : a = j
      · subst e2
        simp only [e1, if_false, if_true]
        rw [List.getElem?_set_ne (Ne.symm hjl), List.getElem?_set_self (by simpa using hj), List.getElem?_set_ne (Ne.symm hjl), List.getElem?_set_self (by simp; omega)]
        rw [List.getElem?_append_right (by omega), List.getElem?_append_right (by omega)]
        simp [hl]
      · by_cases e3 : a = l
        · subst e3
          simp only [e1, e2, if_false, if_true]
          rw [List.getElem?_set_self (by simpa using hk), List.getElem?_set_self (by simp; omega)]
          rw [List.getElem?_append_right (by omega), List.getElem?_append_right (by omega)]
          simp [hl]
        · simp only [e1, e2, e3, if_false]
          rw [List.getElem?_set_ne (Ne.symm e3), List.getElem?_set_ne (Ne.symm e2), List.getElem?_set_ne (Ne.symm e1), List.getElem?_set_ne (Ne.symm e3), List.getElem?_set_ne (Ne.symm e2), List.getElem?_set_ne (Ne.symm e1)]
          rw [List.getElem?_append_left (by omega), List.getElem?_append_left (by omega)]
          exact ⟨rfl, rfl⟩
end
end Fb

set_option Elab.async false
set_option linter.all false
set_option maxRecDepth 100000
set_option maxHeartbeats 4000000
/-! what the check is worth: statements, all of them -/
namespace Fb
open PySem PySem.Spec PyProof.Rows L2
section
variable {Γ : Info} {Φ : Calls} {X : XR} {k : Nat} {N : List Str} {sc : Scope} {fb : Str → Bool} {w0 : Wo} {H0 : Hp} {Y : Cx} {F : XK}
theorem outS_then {K : PySem.W.Frag} {X : XR} {E : XK} {w : Wo} {H : Hp} {st : Sto} {m : M Fl} {f : Env → M Fl} {D D' : Ends} (h : outS K X w0 H0 E w H (M.bind m (fun r => match r with
    | .nx e => f e
    | .ret v => M.pure (.ret v)) st) D) (hr : D'.rt = D.rt)
    (hn : ∀ w' st' env' σ' H', HX w H w' H' → EnvOk K w0 H0 env' w' σ' H' → Wd K st' w' H' → outS K X w0 H0 E w' H' (f env' st') D → D'.nx σ' H') : outS K X w0 H0 E w H (m st) D' := by
  unfold M.bind at h
  cases q : m st with
  | ok r st1 =>
    rw [q] at h
    cases r with
    | nx e => exact fun w' H' σ x hE hW => hn w' st1 e σ H' x hE hW (outS_mono x h)
    | ret v =>
      intro w' H' v e d r
      rw [hr]
      exact h w' H' v e d r
  | exc c p st1 =>
    rw [q] at h
    exact h
  | bad =>
    rw [q] at h
    exact h
theorem setMany2 {i j : Nat} {xs : List Fb.D} {env env' : Env} (h : setMany [i, j] xs env = some env') : ∃ x y, xs = [x, y] ∧ env' = (env.set i (.v x)).set j (.v y) := by
  match xs, h with
  | [x, y], h =>
    simp only [setMany] at h
    split at h
    · split at h
      · cases h; exact ⟨x, y, rfl, rfl⟩
      · cases h
    · cases h
  | [], h => cases h
  | [x], h =>
    simp only [setMany] at h
    split at h <;> cases h
  | x :: y :: z :: r, h =>
    simp only [setMany] at h
    split at h
    · split at h <;> cases h
    · cases h
theorem setMany3 {i j l : Nat} {xs : List Fb.D} {env env' : Env} (h : setMany [i, j, l] xs env = some env') : ∃ x y z, xs = [x, y, z] ∧ env' = ((env.set i (.v x)).set j (.v y)).set l (.v z) := by
  match xs, h with
  | [x, y, z], h =>
    simp only [setMany] at h
    split at h
    · split at h
      · split at h
        · cases h; exact ⟨x, y, z, rfl, rfl⟩
        · cases h
      · cases h
    · cases h
  | [], h => cases h
  | [x], h =>
    simp only [setMany] at h
    split at h <;> cases h
  | [x, y], h =>
    simp only [setMany] at h
    split at h
    · split at h <;> cases h
    · cases h
  | x :: y :: z :: u :: r, h =>
    simp only [setMany] at h
    split at h
    · split at h
      · split at h <;> cases h
      · cases h
    · cases h
theorem par2_of {i : Nat} {e : Expr} {l : Nat} (h : par2 N sc i e l = true) : ∃ x p, e = .Name x p ∧ N[i]? = some x ∧ sc.names.lookup x = some .local ∧ p.line = l := by
  cases e <;> try (exact absurd h Bool.false_ne_true)
  simp only [par2, Bool.and_eq_true, decide_eq_true_eq] at h
  exact ⟨_, _, rfl, h.1, h.2.1, h.2.2⟩
theorem ne_of_ix {i j : Nat} {x y : Str} (nd : N.Nodup) (h1 : N[i]? = some x) (h2 : N[j]? = some y) (h : i ≠ j) : x ≠ y := fun z => by
  subst z
  exact h ((List.getElem?_inj (List.getElem?_eq_some_iff.mp h1).1 nd).mp (h1.trans h2.symm))
theorem plain_stars {vs : List Expr} (h : vs.all plainE = true) : (vs.any fun | .Starred .. => true | _ => false) = false := by
  induction vs with
  | nil => rfl
  | cons v r ih =>
    simp only [List.all_cons, Bool.and_eq_true] at h
    simp only [List.any_cons, ih h.2, Bool.or_false]
    cases v <;> first | rfl | exact absurd h.1 Bool.false_ne_true
theorem par_snd {is : List Nat} {es : Fb.Es} {ts vs : List Expr} {kt k2 : Nat} {pt pt2 pos : Pos} (A : AtS Γ Φ X k N sc fb w0 H0 Y F) (h1 : parOk N sc is ts vs = true) (h2 : es.chk Γ N sc fb vs = true) :
    PS Y (.Assign [.Tuple ts kt pt] (.Tuple vs k2 pt2) pos) (tS Y.K X w0 H0 F ((S.par is es).ev Φ Γ.con)) := by
  have a := A.a
  have hA := sndEs (w0 := w0) (H0 := H0) es sc fb vs h2 Y F a
  have hk : Y.env.blockKind = .function := by
    unfold PySem.Env.blockKind
    rw [a.s, A.kind]
    rfl
  have nd : N.Nodup := by rw [← a.n]; exact a.ok.nd
  match is, ts, h1 with
  | [i, j], [e1, e2], h1 =>
    simp only [parOk, Bool.and_eq_true, decide_eq_true_eq, Bool.not_eq_true'] at h1
    obtain ⟨l1, l2, l3, l4, l5, l6, l7⟩ := h1
    obtain ⟨x, px, rfl, n1, s1, p1⟩ := par2_of l3
    obtain ⟨y, py, rfl, n2, s2, p2⟩ := par2_of l4
    have nxy := ne_of_ix nd n1 n2 l2
    match vs, l1, hA with
    | [v1, v2], l1, hA =>
      rw [← a.s] at s1 s2
      refine PS.imp (ps_par a.ok.calm a.ok.nd (by rw [a.n]; exact n1) (by rw [a.n]; exact n2) l2 s1 s2 hA ?_ rfl) fun D σ H q => ?_
      · have hst := plain_stars l7
        have p2' : py.line = px.line := p2
        have k1 : Y.env.kindOf x = some .local := s1
        have k2 : Y.env.kindOf y = some .local := s2
        unfold swappedStores
        simp only
        rw [if_neg (by simp [hk])]
        refine (if_neg (fun z => Bool.false_ne_true (hst.symm.trans z))).trans ?_
        refine (if_neg ?_).trans ((if_neg ?_).trans ?_)
        · simp [Expr.pos, k1, k2, p2', List.eraseDups_cons, nxy, Ne.symm nxy]
        · rw [l5]; simp
        · rw [l6]; simp [Expr.pos, k1, k2, p2']
      · obtain ⟨w, st, env, hE, hW, q⟩ := q
        simp only [S.ev] at q
        exact sA_go hE hW q fun xs st1 w1 H1 vs e1 hE1 hW1 r z => by
          obtain ⟨env', b, z⟩ := outS_lift z
          obtain ⟨x1, y1, rfl, rfl⟩ := setMany2 b
          match vs, r with
          | [u, v], r => exact ⟨u, v, rfl, z w1 H1 _ HX.refl ((hE1.setV r.1).setV r.2.1) hW1⟩
  | [i, j, l], [e1, e2, e3], h1 =>
    simp only [parOk, Bool.and_eq_true, decide_eq_true_eq, Bool.not_eq_true'] at h1
    obtain ⟨l1, l2, l2b, l2c, l3, l4, l4b, l5, l6, l7⟩ := h1
    obtain ⟨x, px, rfl, n1, s1, p1⟩ := par2_of l3
    obtain ⟨y, py, rfl, n2, s2, p2⟩ := par2_of l4
    obtain ⟨z, pz, rfl, n3, s3, p3⟩ := par2_of l4b
    have nxy := ne_of_ix nd n1 n2 l2
    have nxz := ne_of_ix nd n1 n3 l2b
    have nyz := ne_of_ix nd n2 n3 l2c
    match vs, l1, hA with
    | [v1, v2, v3], l1, hA =>
      rw [← a.s] at s1 s2 s3
      refine PS.imp (ps_par3 a.ok.calm a.ok.nd (by rw [a.n]; exact n1) (by rw [a.n]; exact n2) (by rw [a.n]; exact n3) l2 l2b l2c s1 s2 s3 hA ?_ rfl) fun D σ H q => ?_
      · have hst := plain_stars l7
        have p2' : py.line = px.line := p2
        have p3' : pz.line = px.line := p3
        have k1 : Y.env.kindOf x = some .local := s1
        have k2 : Y.env.kindOf y = some .local := s2
        have k3 : Y.env.kindOf z = some .local := s3
        unfold swappedStores
        simp only
        rw [if_neg (by simp [hk])]
        refine (if_neg (fun z => Bool.false_ne_true (hst.symm.trans z))).trans ?_
        refine (if_neg ?_).trans ((if_neg ?_).trans ?_)
        · simp [Expr.pos, k1, k2, k3, p2', p3', List.eraseDups_cons, nxy, nxz, nyz, Ne.symm nxy, Ne.symm nxz, Ne.symm nyz]
        · rw [l5]; simp
        · rw [l6]; simp [Expr.pos, k1, k2, k3, p2', p3']
      · obtain ⟨w, st, env, hE, hW, q⟩ := q
        simp only [S.ev] at q
        exact sA_go hE hW q fun xs st1 w1 H1 vs e1 hE1 hW1 r z => by
          obtain ⟨env', b, z⟩ := outS_lift z
          obtain ⟨x1, y1, z1, rfl, rfl⟩ := setMany3 b
          match vs, r with
          | [u, v, t], r => exact ⟨u, v, t, rfl, z w1 H1 _ HX.refl (((hE1.setV r.1).setV r.2.1).setV r.2.2.1) hW1⟩
theorem parO_snd {is : List Nat} {es : Fb.Es} {os : List Bool} {ts vs : List Expr} {kt k2 : Nat} {pt pt2 pos : Pos} (A : AtS Γ Φ X k N sc fb w0 H0 Y F) (h1 : parOk N sc is ts vs = true) (h3 : xsOk es os vs = true) (h2 : es.chk Γ N sc fb vs = true) :
    PS Y (.Assign [.Tuple ts kt pt] (.Tuple vs k2 pt2) pos) (tS Y.K X w0 H0 F ((S.parO is es os).ev Φ Γ.con)) := by
  have a := A.a
  have hA := sndX (w0 := w0) (H0 := H0) a es os vs h3 h2
  have hk : Y.env.blockKind = .function := by
    unfold PySem.Env.blockKind
    rw [a.s, A.kind]
    rfl
  have nd : N.Nodup := by rw [← a.n]; exact a.ok.nd
  have open_ : ∀ {D : Ends} {σ : L2.St} {H : Hp} {R : List V → Hp → Prop}, tS Y.K X w0 H0 F ((S.parO is es os).ev Φ Γ.con) D σ H →
      (∀ (env env' : Env) (ss : List Sl) (vs : List V) (w' : Wo) (H' : Hp), env.length = σ.length → putMany is ss env = some env' → vs.length = ss.length → EnvOk Y.K w0 H0 (env ++ ss) w' (σ ++ vs.map some) H' → (∀ σ', EnvOk Y.K w0 H0 env' w' σ' H' → D.nx σ' H') → R vs H') →
      tX Y.K X w0 H0 F (slotsM Φ Γ.con es os) σ H R := fun {D σ H R} q g => by
    obtain ⟨w, st, env, hE, hW, q⟩ := q
    simp only [S.ev] at q
    rw [← M.bind_bind] at q
    refine ⟨w, st, env, [], [], hE.len, by simpa using hE, hW, outX_imp (outS_bind hE hW q) fun ss st1 w1 H1 e1 d1 z _ vs hE1 => ?_⟩
    obtain ⟨env', b, z⟩ := outS_lift z
    rw [List.nil_append, List.nil_append] at hE1
    have l1 := hE1.len
    rw [List.length_append, List.length_append, List.length_map, hE.len] at l1
    exact g env env' ss vs w1 H1 hE.len b (by omega) hE1 fun σ' hE2 => z w1 H1 σ' HX.refl hE2 d1
  match is, ts, h1 with
  | [i, j], [e1, e2], h1 =>
    simp only [parOk, Bool.and_eq_true, decide_eq_true_eq, Bool.not_eq_true'] at h1
    obtain ⟨l1, l2, l3, l4, l5, l6, l7⟩ := h1
    obtain ⟨x, px, rfl, n1, s1, p1⟩ := par2_of l3
    obtain ⟨y, py, rfl, n2, s2, p2⟩ := par2_of l4
    have nxy := ne_of_ix nd n1 n2 l2
    match vs, l1, hA with
    | [v1, v2], l1, hA =>
      rw [← a.s] at s1 s2
      refine PS.imp (ps_par a.ok.calm a.ok.nd (by rw [a.n]; exact n1) (by rw [a.n]; exact n2) l2 s1 s2 hA ?_ rfl) fun D σ H q => ?_
      · have hst := plain_stars l7
        have p2' : py.line = px.line := p2
        have k1 : Y.env.kindOf x = some .local := s1
        have k2 : Y.env.kindOf y = some .local := s2
        unfold swappedStores
        simp only
        rw [if_neg (by simp [hk])]
        refine (if_neg (fun z => Bool.false_ne_true (hst.symm.trans z))).trans ?_
        refine (if_neg ?_).trans ((if_neg ?_).trans ?_)
        · simp [Expr.pos, k1, k2, p2', List.eraseDups_cons, nxy, Ne.symm nxy]
        · rw [l5]; simp
        · rw [l6]; simp [Expr.pos, k1, k2, p2']
      · refine open_ q fun env env' ss vs w' H' hl b hv hE nx => ?_
        obtain ⟨b1, b2, s, t, rfl, rfl⟩ := putMany2 b
        match vs, hv with
        | [u, v], hv => exact ⟨u, v, rfl, nx _ (hE.put2 hl b1 b2 l2)⟩
  | [i, j, l], [e1, e2, e3], h1 =>
    simp only [parOk, Bool.and_eq_true, decide_eq_true_eq, Bool.not_eq_true'] at h1
    obtain ⟨l1, l2, l2b, l2c, l3, l4, l4b, l5, l6, l7⟩ := h1
    obtain ⟨x, px, rfl, n1, s1, p1⟩ := par2_of l3
    obtain ⟨y, py, rfl, n2, s2, p2⟩ := par2_of l4
    obtain ⟨z, pz, rfl, n3, s3, p3⟩ := par2_of l4b
    have nxy := ne_of_ix nd n1 n2 l2
    have nxz := ne_of_ix nd n1 n3 l2b
    have nyz := ne_of_ix nd n2 n3 l2c
    match vs, l1, hA with
    | [v1, v2, v3], l1, hA =>
      rw [← a.s] at s1 s2 s3
      refine PS.imp (ps_par3 a.ok.calm a.ok.nd (by rw [a.n]; exact n1) (by rw [a.n]; exact n2) (by rw [a.n]; exact n3) l2 l2b l2c s1 s2 s3 hA ?_ rfl) fun D σ H q => ?_
      · have hst := plain_stars l7
        have p2' : py.line = px.line := p2
        have p3' : pz.line = px.line := p3
        have k1 : Y.env.kindOf x = some .local := s1
        have k2 : Y.env.kindOf y = some .local := s2
        have k3 : Y.env.kindOf z = some .local := s3
        unfold swappedStores
        simp only
        rw [if_neg (by simp [hk])]
        refine (if_neg (fun z => Bool.false_ne_true (hst.symm.trans z))).trans ?_
        refine (if_neg ?_).trans ((if_neg ?_).trans ?_)
        · simp [Expr.pos, k1, k2, k3, p2', p3', List.eraseDups_cons, nxy, nxz, nyz, Ne.symm nxy, Ne.symm nxz, Ne.symm nyz]
        · rw [l5]; simp
        · rw [l6]; simp [Expr.pos, k1, k2, k3, p2', p3']
      · refine open_ q fun env env' ss vs w' H' hl b hv hE nx => ?_
        obtain ⟨b1, b2, b3, s, t, r, rfl, rfl⟩ := putMany3 b
        match vs, hv with
        | [u, v, t2], hv => exact ⟨u, v, t2, rfl, nx _ (hE.put3 hl b1 b2 b3 l2 l2b l2c)⟩
theorem sA_goE {K : PySem.W.Frag} {X : XR} {E : XK} {w : Wo} {H : Hp} {st : Sto} {env : Env} {σ : L2.St} {D : Ends} {m : Env → M (List Fb.D)} {f : List Fb.D → M Fl} {R : List V → Hp → Prop} (hE : EnvOk K w0 H0 env w σ H) (hW : Wd K st w H) (h : outS K X w0 H0 E w H (M.bind (m env) f st) D)
    (g : ∀ xs st1 w1 H1 vs, m env st = .ok xs st1 → EnvOk K w0 H0 env w1 σ H1 → Wd K st1 w1 H1 → Reps K w1 H1 xs vs → outS K X w0 H0 E w1 H1 (f xs st1) D → R vs H1) : tA K X w0 H0 E m σ H R := by
  have h2 := outS_bind hE hW h
  refine ⟨w, st, env, hE, hW, ?_⟩
  cases q : m env st with
  | ok xs st1 =>
    rw [q] at h2
    exact fun w1 H1 e d vs r => g xs st1 w1 H1 vs q (hE.go hW e) d r (h2 w1 H1 e d)
  | exc c p st1 => rw [q] at h2; exact h2
  | bad => rw [q] at h2; exact h2
theorem own_snd {i : Nat} {es : Fb.Es} {x : Str} {p p2 pos : Pos} {xs : List Expr} (A : AtS Γ Φ X k N sc fb w0 H0 Y F) (h1 : N[i]? = some x) (h2 : locOk sc fb x = true) (h3 : xs.length ≤ 1000) (h4 : es.chk Γ N sc fb xs = true) :
    PS Y (.Assign [.Name x p] (.List xs p2) pos) (tS Y.K X w0 H0 F ((S.own i (.lst es)).ev Φ Γ.con)) := by
  have a := A.a
  obtain ⟨l1, l2⟩ := loc_of a.s a.f h2
  refine PS.imp (ps_set a.ok.nd (by rw [a.n]; exact h1) l1 (pe_lst (sndEs (w0 := w0) (H0 := H0) es sc fb xs h4 Y F a)) rfl l2) fun D σ H q => ?_
  obtain ⟨w, st, env, hE, hW, q⟩ := q
  simp only [S.ev, E.ev, M.bind_bind] at q
  refine sA_goE hE hW q fun ys st1 w1 H1 vs e1 hE1 hW1 r z => ?_
  obtain ⟨y, b, z⟩ := outS_lift z
  obtain ⟨ps, b1, rfl⟩ := Option.map_eq_some_iff.mp b
  simp only [need] at z
  have hq := dpAll_of r b1
  split at z
  · rename_i hl
    refine ⟨?_, fun p hp => ?_⟩
    · have hz := small_es h3 h4 env _ _ _ e1
      rw [reps_len r, sizeLine_eq]; omega
    · obtain ⟨g1, g2, g3⟩ := hE1.ownNew hW1 hp hl hq
      exact z _ _ _ g3 g1 g2
  · exact z.elim
theorem app_snd {i : Nat} {e : Fb.E} {x : Str} {p apos cpos pos : Pos} {y : Expr} (A : AtS Γ Φ X k N sc fb w0 H0 Y F) (h1 : N[i]? = some x) (h2 : visOk sc x = true) (h3 : (apos.endLine == cpos.line) = true) (h4 : plainE y = true) (h5 : e.chk Γ N sc fb y = true) :
    PS Y (.Expr (.Call (.Attribute (.Name x p) "append" apos) [y] [] cpos) pos) (tS Y.K X w0 H0 F ((S.app i e).ev Φ Γ.con)) := by
  have a := A.a
  obtain ⟨v1, v2, v3⟩ := vis_of a.s h2
  have hb : (backTo cpos (starEach [y] Y.env)).all (fun x => !x.1) = true := by
    rw [star_cons h4]
    simp [starEach, backTo]
  refine PS.imp (ps_expr (pe_bm PySem.F.plainAttrs_list PySem.F.slot_list_append PySem.F.type_list_append mt_append (pe_var (by rw [a.n]; exact h1) v1 v2 v3) (pa_cons (sndE (w0 := w0) (H0 := H0) e sc fb y h5 Y F a) pa_nil (star_cons h4)) rfl ?_ h3 (star_cons h4) rfl) rfl) fun D σ H q => ?_
  · simp only [Bool.and_eq_true]
    exact ⟨⟨hb, rfl⟩, rfl⟩
  · obtain ⟨w, st, env, hE, hW, q⟩ := q
    simp only [S.ev] at q
    have key : ∃ ps, env[i]? = some (.own ps) ∧ outS Y.K X w0 H0 F w H (M.bind (e.ev Φ Γ.con env) (fun x => need x fun p => if ps.length < 16777216 then M.pure (.nx (env.set i (.own (ps ++ [p])))) else M.bad) st) D := by
      cases q1 : env[i]? with
      | none => rw [q1] at q; exact q.elim
      | some sl =>
        rw [q1] at q
        cases sl with
        | own ps => exact ⟨ps, rfl, q⟩
        | _ => exact q.elim
    obtain ⟨ps, q1, q⟩ := key
    obtain ⟨la, vs, g1, g2, g3, g4, g5, g6⟩ := hE.own i ps q1
    refine ⟨_, g1, .inl ⟨rfl, _, .inl (.inl g5)⟩, sE_go hE hW q fun x st1 w1 H1 v e1 hE1 hW1 r z => ?_⟩
    obtain ⟨pd, hpd, z⟩ := outS_need z
    subst hpd
    split at z
    · rename_i hl
      have g5' := e1.keep _ _ g5 g3
      have g3' := e1.notIn (by rw [g5]; simp) g3
      have g6' := dpAll_mono (e1.hx hW).hid g6
      obtain ⟨f1, f2, f3⟩ := hE1.app hW1 q1 g1 (e1.up _ g2) g3' g4 g6' r
      refine ⟨la, vs, v, rfl, rfl, g5', ?_, z _ _ _ f3 f1 f2⟩
      rw [g6.length, sizeLine_eq]; omega
    · exact z.elim
theorem bind_at {α β : Type} {m : M α} {f : α → M β} {st s' : Sto} {a : α} (h : m st = .ok a s') : M.bind m f st = f a s' := by
  unfold M.bind
  rw [h]
theorem bind_bad {α β : Type} {m : M α} {f : α → M β} {st : Sto} (h : m st = .bad) : M.bind m f st = .bad := by
  unfold M.bind
  rw [h]
def rsetRef (n : Nat) (k : Int) (v : Fb.D) : M Unit := fun s => match s[n]? with
  | some (.lst xs) => (match L2.ixN xs.length k with
    | some j => .ok () (s.set n (.lst (xs.set j v)))
    | none => .bad)
  | none => .bad
theorem rset_eq (n : Nat) (k : Int) (v : Fb.D) : rsetM (.ref n) (.int k) v = rsetRef n k v := rfl
theorem rset_cases (o : Fb.D) (kd : PyData) (x : Fb.D) : (∃ n ki, o = .ref n ∧ kd = .int ki) ∨ rsetM o kd x = M.bad := by
  cases o with
  | ref n => cases kd <;> first | exact .inl ⟨n, _, rfl, rfl⟩ | exact .inr rfl
  | d p => exact .inr rfl
  | scr ns => exact .inr rfl
theorem rset_ok {K : PySem.W.Frag} {X : XR} {E : XK} {w : Wo} {H : Hp} {st : Sto} {D : Ends} {o : Fb.D} {kd : PyData} {x : Fb.D} {f : Unit → M Fl} (h : outS K X w0 H0 E w H (M.bind (rsetM o kd x) f st) D) :
    ∃ n ki xs j, o = .ref n ∧ kd = .int ki ∧ st[n]? = some (.lst xs) ∧ L2.ixN xs.length ki = some j ∧ outS K X w0 H0 E w H (f () (st.set n (.lst (xs.set j x)))) D := by
  rcases rset_cases o kd x with ⟨n, ki, rfl, rfl⟩ | e
  · rw [rset_eq] at h
    cases q1 : st[n]? with
    | none =>
      have e : rsetRef n ki x st = .bad := by unfold rsetRef; rw [q1]
      rw [bind_bad e] at h
      exact h.elim
    | some ob =>
      cases ob with
      | lst xs =>
        cases q2 : L2.ixN xs.length ki with
        | none =>
          have e : rsetRef n ki x st = .bad := by unfold rsetRef; rw [q1]; simp only; rw [q2]
          rw [bind_bad e] at h
          exact h.elim
        | some j =>
          have e : rsetRef n ki x st = .ok () (st.set n (.lst (xs.set j x))) := by unfold rsetRef; rw [q1]; simp only; rw [q2]
          rw [bind_at e] at h
          exact ⟨n, ki, xs, j, rfl, rfl, q1, q2, h⟩
  · rw [e] at h
    exact h.elim
theorem rset_snd {o ie e : Fb.E} {b c x : Expr} {p pos : Pos} (A : AtS Γ Φ X k N sc fb w0 H0 Y F) (h1 : noSlice c = true) (h2 : plainV x = true) (h3 : e.chk Γ N sc fb x = true) (h4 : o.chk Γ N sc fb b = true) (h5 : ie.chk Γ N sc fb c = true) :
    PS Y (.Assign [.Subscript b c p] x pos) (tS Y.K X w0 H0 F ((S.rset o ie e).ev Φ Γ.con)) := by
  have a := A.a
  refine PS.imp (ps_asg (sndE (w0 := w0) (H0 := H0) e sc fb x h3 Y F a) (pg_sub (sndE (w0 := w0) (H0 := H0) o sc fb b h4 Y F a) (sndE (w0 := w0) (H0 := H0) ie sc fb c h5 Y F a) set_list ?_) (by show swapsWith x (some (.Subscript b c p)) pos.line Y.env = pure false; exact swaps_plain h2) ?_ rfl) fun D σ H q => ?_
  · intro v
    cases c <;> first | exact absurd h1 Bool.false_ne_true | rfl
  · cases x <;> rfl
  · obtain ⟨w, st, env, hE, hW, q⟩ := q
    simp only [S.ev] at q
    refine sE_go hE hW q fun x st1 w1 H1 v e1 hE1 hW1 r z => ?_
    refine sE_go hE1 hW1 z fun y st2 w2 H2 u e2 hE2 hW2 r2 z => ?_
    refine sE_go hE2 hW2 z fun t st3 w3 H3 t' e3 hE3 hW3 r3 z => ?_
    obtain ⟨kd, hkd, z⟩ := outS_need z
    subst hkd
    have rx := rep_mono (e3.hx hW2) (rep_mono (e2.hx hW1) r)
    have ro := rep_mono (e3.hx hW2) r2
    obtain ⟨n, ki, xs, j, hy, hk, q1, q2, z9⟩ := rset_ok z
    subst hy hk
    cases r3
    obtain ⟨ad, m1, m2⟩ := ro
    subst m2
    obtain ⟨ad2, m3, vs, m4, m5⟩ := hW3.obs n _ q1
    rw [m1] at m3
    cases m3
    obtain ⟨f1, f2, f3⟩ := hE3.rset (j := j) hW3 m1 q1 m4 m5 rx
    exact ⟨ad, vs, ki, j, rfl, rfl, m4, by rw [reps_len m5]; exact q2, z9 _ _ _ f3 f1 f2⟩
theorem raise_snd {c m : String} {x s : Str} {j : Nat} {p p2 p3 pos : Pos} (A : AtS Γ Φ X k N sc fb w0 H0 Y F) (h1 : Γ.exs c = true) (h2 : gloOk sc x c = true) (h3 : s = Str.ofString m) :
    PS Y (.Raise (some (.Call (.Name x p) [.Constant (.str s) j p2] [] p3)) none pos) (tS Y.K X w0 H0 F ((S.raise c m).ev Φ Γ.con)) := by
  have a := A.a
  obtain ⟨g1, g2, g3, g4⟩ := glo_of a.s h2
  subst g1 h3
  obtain ⟨C, e1, e2, e3, e4, e5⟩ := a.ok.g.exs c h1
  refine PS.imp (ps_raise a.ok.calm A.tk (pmk_own PySem.F.excBase_ValueError e2 e1 e3 (raises_own e4 e5) g2 g3)) fun D σ H q => ?_
  obtain ⟨w, st, env, hE, hW, q⟩ := q
  simp only [S.ev] at q
  exact q w H (.ref C) none hE.ext hW (A.ex c m C H h1 e1)
theorem ret_snd {e : Fb.E} {x : Expr} {pos : Pos} (A : AtS Γ Φ X k N sc fb w0 H0 Y F) (h : e.chk Γ N sc fb x = true) : PS Y (.Return (some x) pos) (tS Y.K X w0 H0 F ((S.ret e).ev Φ Γ.con)) := by
  refine PS.imp (ps_ret (sndE (w0 := w0) (H0 := H0) e sc fb x h Y F A.a)) fun D σ H q => ?_
  obtain ⟨w, st, env, hE, hW, q⟩ := q
  simp only [S.ev] at q
  exact sE_go hE hW q fun x st1 w1 H1 v e1 hE1 hW1 r z => z w1 H1 v hE1.ext hW1 r
theorem expr_snd {e : Fb.E} {x : Expr} {pos : Pos} (A : AtS Γ Φ X k N sc fb w0 H0 Y F) (h0 : plainV x = true) (h : e.chk Γ N sc fb x = true) : PS Y (.Expr x pos) (tS Y.K X w0 H0 F ((S.expr e).ev Φ Γ.con)) := by
  refine PS.imp (ps_expr (sndE (w0 := w0) (H0 := H0) e sc fb x h Y F A.a) (swaps_plain h0)) fun D σ H q => ?_
  obtain ⟨w, st, env, hE, hW, q⟩ := q
  simp only [S.ev] at q
  exact sE_go hE hW q fun x st1 w1 H1 v e1 hE1 hW1 r z => z w1 H1 σ HX.refl hE1 hW1
theorem for_snd {it : Fb.It} {t : T} {b : Fb.Ss} {tg iter : Expr} {body : List Stmt} {pos : Pos} (A : AtS Γ Φ X k N sc fb w0 H0 Y F) (h1 : it.chk Γ N sc fb tg iter = true) (h2 : t.chk N sc fb tg = true) (hb : PSs Y body (tS Y.K X w0 H0 F (b.ev Φ Γ.con))) :
    PS Y (.For tg iter body [] pos) (tS Y.K X w0 H0 F ((S.for_ it t b).ev Φ Γ.con)) := by
  have a := A.a
  refine PS.imp (ps_for A.po a.ok.calm (sndI (w0 := w0) (H0 := H0) it sc fb tg iter h1 Y F a) (sndT (w0 := w0) (H0 := H0) rfl a.n a.ok.nd a.s a.f a.ok.calm t tg h2) hb (itNo h1)) fun D σ H q => ?_
  obtain ⟨w, st, env, hE, hW, q⟩ := q
  simp only [S.ev] at q
  refine ⟨w, st, env, hE, hW, outX_imp (outS_bind hE hW q) fun items st1 w1 H1 e1 hW1 z J wk => ?_⟩
  refine ⟨fun i m σ2 H2 => m = items.length - i ∧ i ≤ items.length ∧ ∃ (w2 : Wo) (st2 : Sto) (env2 : Env), HX w1 H1 w2 H2 ∧ EnvOk Y.K w0 H0 env2 w2 σ2 H2 ∧ Wd Y.K st2 w2 H2 ∧
    outS Y.K X w0 H0 F w2 H2 (forL (fun x env => M.bind (M.lift (t.bind x env)) fun env' => b.ev Φ Γ.con env') (items.drop i) env2 st2) D, ⟨items.length, rfl, Nat.zero_le _, w1, st1, env, HX.refl, hE.go hW e1, hW1, z⟩, ?_⟩
  rintro i m σ2 H2 ⟨rfl, hi, w2, st2, env2, x2, hE2, hW2, z2⟩
  by_cases hlt : i < items.length
  · have hit : items[i]? = some items[i] := List.getElem?_eq_getElem hlt
    obtain ⟨go, yd⟩ := wk.go w2 H2 i items[i] x2 hW2.dom hit
    rw [List.drop_eq_getElem_cons hlt] at z2
    simp only [forL, M.bind_bind] at z2
    obtain ⟨env', eb, z3⟩ := outS_lift z2
    refine .inr ⟨go, fun σ' H' => ∃ (w' : Wo) (st' : Sto) (env' : Env), HX w1 H1 w' H' ∧ EnvOk Y.K w0 H0 env' w' σ' H' ∧ Wd Y.K st' w' H' ∧
      outS Y.K X w0 H0 F w' H' (forL (fun x env => M.bind (M.lift (t.bind x env)) fun env' => b.ev Φ Γ.con env') (items.drop (i + 1)) env' st') D, fun σ' H' hn => ⟨items.length - (i + 1), by omega, rfl, hlt, hn⟩, fun v H3 y => ?_⟩
    obtain ⟨k3, r3⟩ := yd v H3 y
    obtain ⟨e3, d3⟩ := Ext.grown hW2 k3
    have h3 := e3.hx hW2
    refine ⟨w2, st2, env2, _, env', hE2.go hW2 e3, d3, r3, eb, fun σ' hE4 _ _ => ⟨w2, st2, env', hE4, d3, ?_⟩⟩
    exact outS_then (outS_mono h3 z3) rfl fun w' st' env'' σ'' H' x4 hE5 hW5 z5 => ⟨w', st', env'', (x2.trans h3).trans x4, hE5, hW5, z5⟩
  · have hi' : i = items.length := by omega
    subst hi'
    rw [List.drop_length] at z2
    simp only [forL] at z2
    exact .inl ⟨wk.stop w2 H2 x2, z2 w2 H2 σ2 HX.refl hE2 hW2⟩
theorem while_snd {c : Fb.E} {b : Fb.Ss} {ce : Expr} {body : List Stmt} {pos : Pos} (A : AtS Γ Φ X k N sc fb w0 H0 Y F) (h1 : c.chk Γ N sc fb ce = true) (hb : PSs Y body (tS Y.K X w0 H0 F (b.ev Φ Γ.con))) :
    PS Y (.While ce body [] pos) (tS Y.K X w0 H0 F ((S.while_ c b).ev Φ Γ.con)) := by
  have a := A.a
  refine PS.imp (ps_while A.po (sndT2 (w0 := w0) (H0 := H0) c sc fb ce h1 Y F a) hb) fun D σ H q => ?_
  obtain ⟨w, st, env, hE, hW, q⟩ := q
  simp only [S.ev] at q
  refine ⟨fun m σ2 H2 => ∃ (w2 : Wo) (st2 : Sto) (env2 : Env), EnvOk Y.K w0 H0 env2 w2 σ2 H2 ∧ Wd Y.K st2 w2 H2 ∧ outS Y.K X w0 H0 F w2 H2 (whileL (fun env => c.tst Φ Γ.con env) (fun env => b.ev Φ Γ.con env) m env2 st2) D, ⟨100000, w, st, env, hE, hW, q⟩, ?_⟩
  rintro m σ2 H2 ⟨w2, st2, env2, hE2, hW2, z2⟩
  cases m with
  | zero => exact z2.elim
  | succ m =>
    simp only [whileL] at z2
    refine sT_go hE2 hW2 z2 fun kb st3 w3 H3 e3 hE3 hW3 z => ?_
    cases kb with
    | true =>
      rw [if_pos rfl] at z ⊢
      refine ⟨fun σ' H' => ∃ (w' : Wo) (st' : Sto) (env' : Env), EnvOk Y.K w0 H0 env' w' σ' H' ∧ Wd Y.K st' w' H' ∧ outS Y.K X w0 H0 F w' H' (whileL (fun env => c.tst Φ Γ.con env) (fun env => b.ev Φ Γ.con env) m env' st') D,
        fun σ' H' hn => ⟨m, Nat.lt_succ_self _, hn⟩, w3, st3, env2, hE3, hW3, ?_⟩
      exact outS_then z rfl fun w' st' env'' σ'' H' x4 hE5 hW5 z5 => ⟨w', st', env'', hE5, hW5, z5⟩
    | false =>
      rw [if_neg Bool.false_ne_true] at z ⊢
      exact z w3 H3 σ2 HX.refl hE3 hW3
theorem ifs_snd {t : Fb.E} {a b : Fb.Ss} {c : Expr} {p q : List Stmt} {pos : Pos} (A : AtS Γ Φ X k N sc fb w0 H0 Y F) (h1 : t.chk Γ N sc fb c = true) (ha : PSs Y p (tS Y.K X w0 H0 F (a.ev Φ Γ.con))) (hb : PSs Y q (tS Y.K X w0 H0 F (b.ev Φ Γ.con))) :
    PS Y (.If c p q pos) (tS Y.K X w0 H0 F ((S.ifs t a b).ev Φ Γ.con)) := by
  refine PS.imp (ps_if (sndT2 (w0 := w0) (H0 := H0) t sc fb c h1 Y F A.a) ha hb) fun D σ H q => ?_
  obtain ⟨w, st, env, hE, hW, q⟩ := q
  simp only [S.ev] at q
  refine sT_go hE hW q fun kb st1 w1 H1 e1 hE1 hW1 z => ?_
  cases kb with
  | true =>
    rw [if_pos rfl] at z ⊢
    exact ⟨w1, st1, env, hE1, hW1, z⟩
  | false =>
    rw [if_neg Bool.false_ne_true] at z ⊢
    exact ⟨w1, st1, env, hE1, hW1, z⟩
theorem cons_snd {i : Fb.S} {is : Fb.Ss} {s : Stmt} {ss : List Stmt} (h1 : PS Y s (tS Y.K X w0 H0 F (i.ev Φ Γ.con))) (h2 : PSs Y ss (tS Y.K X w0 H0 F (is.ev Φ Γ.con))) : PSs Y (s :: ss) (tS Y.K X w0 H0 F ((Ss.cons i is).ev Φ Γ.con)) := by
  refine PSs.imp (pss_cons h1 h2) fun D σ H q => ?_
  obtain ⟨w, st, env, hE, hW, q⟩ := q
  simp only [Ss.ev] at q
  exact ⟨w, st, env, hE, hW, outS_then q rfl fun w' st' env' σ' H' x hE' hW' z => ⟨w', st', env', hE', hW', z⟩⟩
theorem frz_snd {i : Nat} {is : Fb.Ss} {ss : List Stmt} (A : AtS Γ Φ X k N sc fb w0 H0 Y F) (h2 : PSs Y ss (tS Y.K X w0 H0 F (is.ev Φ Γ.con))) : PSs Y ss (tS Y.K X w0 H0 F ((Ss.cons (.frz i) is).ev Φ Γ.con)) := by
  refine PSs.imp h2 fun D σ H q => ?_
  obtain ⟨w, st, env, hE, hW, q⟩ := q
  simp only [Ss.ev, S.ev] at q
  cases q1 : env[i]? with
  | none => rw [q1] at q; exact q.elim
  | some sl =>
    rw [q1] at q
    cases sl with
    | own xs =>
      obtain ⟨w', g1, g2, g3⟩ := hE.frz A.d0 hW q1
      exact ⟨w', st, _, g1, g2, outS_mono g3 q⟩
    | _ => exact q.elim
mutual
theorem sndS (A : AtS Γ Φ X k N sc fb w0 H0 Y F) : ∀ (ir : Fb.S) (s : Stmt), ir.chk Γ N sc fb s = true → PS Y s (tS Y.K X w0 H0 F (ir.ev Φ Γ.con))
  | .set t e, s, h => by
    cases s <;> try (exact absurd h Bool.false_ne_true)
    rename_i ts x pos
    match ts, h with
    | [tg], h =>
      simp only [S.chk, Bool.and_eq_true] at h
      exact set_snd A h.1 h.2.1 h.2.2
  | .par is es, s, h => by
    cases s <;> try (exact absurd h Bool.false_ne_true)
    rename_i ts x pos
    match ts, x, h with
    | [.Tuple ts _ _], .Tuple vs _ _, h =>
      simp only [S.chk, Bool.and_eq_true] at h
      exact par_snd A h.1 h.2
  | .parO is es os, s, h => by
    cases s <;> try (exact absurd h Bool.false_ne_true)
    rename_i ts x pos
    match ts, x, h with
    | [.Tuple ts _ _], .Tuple vs _ _, h =>
      simp only [S.chk, Bool.and_eq_true] at h
      exact parO_snd A h.1.1 h.1.2 h.2
  | .own i (.lst es), s, h => by
    cases s <;> try (exact absurd h Bool.false_ne_true)
    rename_i ts x pos
    match ts, x, h with
    | [.Name x _], .List xs _, h =>
      simp only [S.chk, Bool.and_eq_true, decide_eq_true_eq] at h
      exact own_snd A h.1 h.2.1 h.2.2.1 h.2.2.2
  | .app i e, s, h => by
    cases s <;> try (exact absurd h Bool.false_ne_true)
    rename_i x pos
    match x, h with
    | .Call (.Attribute (.Name x _) a apos) [y] [] cpos, h =>
      simp only [S.chk, Bool.and_eq_true, decide_eq_true_eq] at h
      obtain ⟨h1, h2, h3, h4, h5, h6⟩ := h
      subst h3
      exact app_snd A h1 h2 h4 h5 h6
  | .rset o i e, s, h => by
    cases s <;> try (exact absurd h Bool.false_ne_true)
    rename_i ts x pos
    match ts, h with
    | [.Subscript a b _], h =>
      simp only [S.chk, Bool.and_eq_true] at h
      exact rset_snd A h.1 h.2.1 h.2.2.1 h.2.2.2.1 h.2.2.2.2
  | .expr e, s, h => by
    cases s <;> try (exact absurd h Bool.false_ne_true)
    simp only [S.chk, Bool.and_eq_true] at h
    exact expr_snd A h.1 h.2
  | .ret e, s, h => by
    cases s <;> try (exact absurd h Bool.false_ne_true)
    rename_i x pos
    match x, h with
    | some x, h => exact ret_snd A h
  | .retN, s, h => by
    cases s <;> try (exact absurd h Bool.false_ne_true)
    rename_i x pos
    match x, h with
    | none, h =>
      refine PS.imp ps_retN fun D σ H q => ?_
      obtain ⟨w, st, env, hE, hW, q⟩ := q
      simp only [S.ev] at q
      exact q w H .non hE.ext hW .non
  | .ifs t a b, s, h => by
    cases s <;> try (exact absurd h Bool.false_ne_true)
    simp only [S.chk, Bool.and_eq_true] at h
    exact ifs_snd A h.1 (sndSs A a _ h.2.1) (sndSs A b _ h.2.2)
  | .for_ it t b, s, h => by
    cases s <;> try (exact absurd h Bool.false_ne_true)
    rename_i tg iter body orelse pos
    match orelse, h with
    | [], h =>
      simp only [S.chk, Bool.and_eq_true] at h
      exact for_snd A h.1 h.2.1 (sndSs A b _ h.2.2)
  | .while_ t b, s, h => by
    cases s <;> try (exact absurd h Bool.false_ne_true)
    rename_i c body orelse pos
    match orelse, h with
    | [], h =>
      simp only [S.chk, Bool.and_eq_true] at h
      exact while_snd A h.1 (sndSs A b _ h.2)
  | .raise c m, s, h => by
    cases s <;> try (exact absurd h Bool.false_ne_true)
    rename_i e c2 pos
    match e, c2, h with
    | some (.Call (.Name x _) [.Constant (.str s) _ _] [] _), none, h =>
      simp only [S.chk, Bool.and_eq_true, decide_eq_true_eq] at h
      exact raise_snd A h.1 h.2.1 h.2.2
  | .frz _, s, h => by cases s <;> exact absurd h Bool.false_ne_true
  | .own _ (.var _), s, h => by cases s <;> exact absurd h Bool.false_ne_true
  | .own _ (.cst _), s, h => by cases s <;> exact absurd h Bool.false_ne_true
  | .own _ (.glo _), s, h => by cases s <;> exact absurd h Bool.false_ne_true
  | .own _ (.tup _), s, h => by cases s <;> exact absurd h Bool.false_ne_true
  | .own _ (.nref _), s, h => by cases s <;> exact absurd h Bool.false_ne_true
  | .own _ (.bin _ _ _), s, h => by cases s <;> exact absurd h Bool.false_ne_true
  | .own _ (.neg _), s, h => by cases s <;> exact absurd h Bool.false_ne_true
  | .own _ (.not _), s, h => by cases s <;> exact absurd h Bool.false_ne_true
  | .own _ (.cmp _ _ _), s, h => by cases s <;> exact absurd h Bool.false_ne_true
  | .own _ (.chn _ _ _ _ _), s, h => by cases s <;> exact absurd h Bool.false_ne_true
  | .own _ (.and _ _), s, h => by cases s <;> exact absurd h Bool.false_ne_true
  | .own _ (.or _ _), s, h => by cases s <;> exact absurd h Bool.false_ne_true
  | .own _ (.ife _ _ _), s, h => by cases s <;> exact absurd h Bool.false_ne_true
  | .own _ (.ix _ _), s, h => by cases s <;> exact absurd h Bool.false_ne_true
  | .own _ (.cut _ _ _), s, h => by cases s <;> exact absurd h Bool.false_ne_true
  | .own _ (.call _ _), s, h => by cases s <;> exact absurd h Bool.false_ne_true
  | .own _ (.blt _ _), s, h => by cases s <;> exact absurd h Bool.false_ne_true
  | .own _ (.isi _ _), s, h => by cases s <;> exact absurd h Bool.false_ne_true
  | .own _ (.lc _ _), s, h => by cases s <;> exact absurd h Bool.false_ne_true
termination_by ir => sizeOf ir
decreasing_by all_goals (simp_wf; omega)
theorem sndSs (A : AtS Γ Φ X k N sc fb w0 H0 Y F) : ∀ (is : Fb.Ss) (ss : List Stmt), is.chk Γ N sc fb ss = true → PSs Y ss (tS Y.K X w0 H0 F (is.ev Φ Γ.con))
  | .nil, ss, h => by
    match ss, h with
    | [], h =>
      refine PSs.imp pss_nil fun D σ H q => ?_
      obtain ⟨w, st, env, hE, hW, q⟩ := q
      simp only [Ss.ev] at q
      exact q w H σ HX.refl hE hW
  | .cons i is, ss, h => by
    by_cases hf : ∃ j, i = .frz j
    · obtain ⟨j, rfl⟩ := hf
      have h' : is.chk Γ N sc fb ss = true := by cases ss <;> exact h
      exact frz_snd A (sndSs A is ss h')
    · have h' : ∃ s r, ss = s :: r ∧ i.chk Γ N sc fb s = true ∧ is.chk Γ N sc fb r = true := by
        cases ss with
        | nil => cases i <;> first | exact absurd h Bool.false_ne_true | exact absurd ⟨_, rfl⟩ hf
        | cons s r =>
          refine ⟨s, r, rfl, ?_⟩
          rw [← Bool.and_eq_true]
          cases i <;> first | exact h | exact absurd ⟨_, rfl⟩ hf
      obtain ⟨s, r, rfl, h1, h2⟩ := h'
      exact cons_snd (sndS A i s h1) (sndSs A is r h2)
termination_by is => sizeOf is
decreasing_by all_goals (simp_wf; omega)
end
end
end Fb

set_option Elab.async false
set_option linter.all false
set_option maxRecDepth 100000
set_option maxHeartbeats 4000000
/-! defs, the table of defs, the law's call -/
namespace Fb
open PySem PySem.Spec PyProof.Rows L2

/-! ### a def by its body -/
theorem def_g {P : Program} {w : World} {K : PySem.W.Frag} {mg : Str → Option Value} {base : Heap} {k : Nat} {x qual : Str} {params : Arguments} {body : List Stmt} {scope : Scope} {dvs : List V} {kws : List (Str × V)} {f : Addr} {fd : FuncData} {N ps : List Str} {sp : Sp}
    (F : FunD K x qual params body scope dvs kws f fd) (S : FnScope N ps scope) (len : ∀ vs H Q E, sp vs H Q E → vs.length = ps.length)
    (walk : ∀ (cdv : Value) (A : Around) (outer : List PySem.Env) (s : Shared) (H : Hp) (vs : List V) (Q : VK) (E : XK), Room k (A.deeper (envOfC qual scope s.heap.objs.size f cdv)) → A.guards = some [] → sp vs H Q E →
      ∃ t, PSs (cxOf (L2.CX P w) P w K mg base N qual scope f cdv A outer s H E) body t ∧ t { nx := fun _ H' => Q .non H', rt := Q } (start N vs) H) : FnG P w K mg base (k + 1) f fd ps sp := by
  obtain ⟨oc, od, dV, kV, doc, pm, an, cdv, ct, osl, e, lk, hcd, _, _⟩ := F.ex
  subst e
  constructor
  · exact len
  · intro A outer s H args us vs Q E room gu here binds r sp0
    have KS : K.In s.heap := here.mod.kin.keeps fun b o q => (here.bs b o q).1
    have places : ∀ y ∈ ps.zip us, scope.names.lookup y.1 = some .local ∨ (scope.names.lookup y.1 = some .cell ∧ ((cellsFrom (s.heap.objs.size + 1) scope.names []).lookup y.1).isSome = true) := by
      rintro ⟨n, v⟩ hy
      rcases S.par n (List.of_mem_zip hy).1 with q | q
      · exact .inl q
      · exact .inr ⟨q, PySem.W.cellsFrom_some _ _ _ (.inl q)⟩
    apply codeAny_call_function room.depth (KS _ _ lk) rfl S.co S.gen rfl (PySem.W.codeRec_of KS hcd)
    apply binds
    apply wpAny_newFunctionEnv_cells S.kind places
    intro env he s1 inside
    subst he
    constructor
    · exact (here.mod.nolimit.keeps fun b o q => (here.bs b o q).1).keeps inside.toInCall.keep
    · apply codeAny_func
      obtain ⟨t, walked, now⟩ := walk cdv A outer s H vs Q E (room.deeper _) gu sp0
      have I := inv_start (cd := cdv) (mg := mg) (qual := qual) (f := f) (CX := L2.CX P w) (E := E) S room.hd here (len _ _ _ _ sp0) r inside
      refine wpAny_mono (walked.run [] s1 (start N vs) H _ I now) ?_ (fun _ _ z => z)
      intro fl s' ends
      cases fl with
      | next =>
        obtain ⟨σ', H', J, q⟩ := ends
        exact ⟨.non, H', J.os, J.bare, J.base, J.hok, rfl, q⟩
      | ret u =>
        obtain ⟨v, σ', H', J, rv, q⟩ := ends
        exact ⟨v, H', J.os, J.bare, J.base, J.hok, rv, q⟩
      | brk =>
        obtain ⟨_, _, _, q⟩ := ends
        exact q.elim
      | cont =>
        obtain ⟨_, _, _, q⟩ := ends
        exact q.elim

/-! ### constants of the text -/
mutual
def datB (K : PySem.W.Frag) : PyData → Value → Bool
  | .none, .none => true
  | .bool b, .bool c => b == c
  | .int i, .int j _ => decide (i = j)
  | .str x, .str y _ => decide (x = y)
  | .tuple ps, .ref a => (match K.lookup a with
    | some ⟨.type c, _, .seq its _, _⟩ => decide (c = "tuple") && (decide (its.size ≤ sizeLine) && datBs K ps its.toList)
    | _ => false)
  | _, _ => false
def datBs (K : PySem.W.Frag) : List PyData → List Value → Bool
  | [], [] => true
  | p :: ps, u :: us => datB K p u && datBs K ps us
  | _, _ => false
end
mutual
theorem datB_ok {K : PySem.W.Frag} : ∀ (p : PyData) (u : Value), datB K p u = true → ∃ v, RelV v u ∧ ∀ H, Dq K H v p
  | .none, u, h => by cases u <;> first | exact absurd h Bool.false_ne_true | exact ⟨.non, rfl, fun _ => .non⟩
  | .bool b, u, h => by
    cases u <;> try (exact absurd h Bool.false_ne_true)
    simp only [datB, beq_iff_eq] at h
    subst h
    exact ⟨.bl _, rfl, fun _ => .bl _⟩
  | .int b, u, h => by
    cases u <;> try (exact absurd h Bool.false_ne_true)
    simp only [datB, decide_eq_true_eq] at h
    subst h
    exact ⟨.int _, ⟨_, rfl⟩, fun _ => .int _⟩
  | .str b, u, h => by
    cases u <;> try (exact absurd h Bool.false_ne_true)
    simp only [datB, decide_eq_true_eq] at h
    subst h
    exact ⟨.str _, ⟨_, rfl⟩, fun _ => .str _⟩
  | .tuple ps, u, h => by
    cases u <;> try (exact absurd h Bool.false_ne_true)
    rename_i a
    simp only [datB] at h
    cases q : K.lookup a with
    | none => rw [q] at h; cases h
    | some o =>
      obtain ⟨oc, od, dt, osl⟩ := o
      rw [q] at h
      cases oc <;> cases dt <;> try (exact absurd h Bool.false_ne_true)
      simp only [Bool.and_eq_true, decide_eq_true_eq] at h
      obtain ⟨h1, h2, h3⟩ := h
      obtain ⟨vs, r, d⟩ := datBs_ok ps _ h3
      exact ⟨.ref a, rfl, fun H => .tup (.inr ⟨_, _, _, q, congrArg Value.type h1, rfl, h2, r⟩) (d H)⟩
  | .list _, u, h => by cases u <;> exact absurd h Bool.false_ne_true
  | .dict _, u, h => by cases u <;> exact absurd h Bool.false_ne_true
theorem datBs_ok {K : PySem.W.Frag} : ∀ (ps : List PyData) (us : List Value), datBs K ps us = true → ∃ vs, Vals vs us ∧ ∀ H, DqAll K H vs ps
  | [], [], _ => ⟨[], .nil, fun _ => .nil⟩
  | p :: ps, u :: us, h => by
    simp only [datBs, Bool.and_eq_true] at h
    obtain ⟨v, r, d⟩ := datB_ok p u h.1
    obtain ⟨vs, rs, ds⟩ := datBs_ok ps us h.2
    exact ⟨v :: vs, .cons r rs, fun H => .cons (d H) (ds H)⟩
  | [], _ :: _, h => absurd h Bool.false_ne_true
  | _ :: _, [], h => absurd h Bool.false_ne_true
end
def conB (K : PySem.W.Frag) (x : Str) (p : PyData) : Bool := match PySem.W.nsIn K mainGlobals x with
  | some (some u) => datB K p u
  | _ => false

/-! ### the table of a text's defs -/
structure Ent where
  nm : String
  d : He.DefD
  N : List Str
  ps : List Str
  fn : Fn
structure Tbl where
  ents : List Ent
  con : List (String × PyData)
  exs : List String
def Tbl.find (T : Tbl) (f : String) : Option Ent := T.ents.find? fun e => e.nm == f
def Tbl.cons (T : Tbl) : Cons := fun x => (T.con.find? fun q => q.1 == x).map (·.2)
def Tbl.info (T : Tbl) : Info := ⟨fun f => (T.find f).map (·.ps.length), T.cons, fun c => T.exs.contains c⟩
def Tbl.fns (T : Tbl) : String → Option Fn := fun f => (T.find f).map (·.fn)
abbrev Tbl.run (T : Tbl) (n : Nat) : Calls := runT T.cons T.fns n
def Ent.okB (Γ : Info) (e : Ent) : Bool := decide (e.d.at_ = (Str.ofString e.nm, none)) && (decide (e.d.scope.kind = .function) && (!e.d.scope.isCoroutine && (!e.d.scope.isGenerator && (decide e.N.Nodup && (decide (e.N.take e.ps.length = e.ps) &&
  (e.ps.all (fun x => decide (e.d.scope.names.lookup x = some .local) || decide (e.d.scope.names.lookup x = some .cell)) && (e.d.scope.names.all (fun y => decide (y.2 ≠ .free)) && (decide (e.fn.ps = e.ps.length) && (decide (e.fn.ns = e.N.length) &&
  (e.fn.body.chk Γ e.N e.d.scope (fun _ => true) e.d.body && (e.d.dfl.isEmpty && e.d.kwd.isEmpty)))))))))))
theorem Ent.scope {Γ : Info} {e : Ent} (h : e.okB Γ = true) : FnScope e.N e.ps e.d.scope ∧ e.fn.ps = e.ps.length ∧ e.fn.ns = e.N.length ∧ e.fn.body.chk Γ e.N e.d.scope (fun _ => true) e.d.body = true ∧ e.d.dfl = [] ∧ e.d.kwd = [] ∧ e.d.at_ = (Str.ofString e.nm, none) := by
  unfold Ent.okB at h
  simp only [Bool.and_eq_true, decide_eq_true_eq, Bool.not_eq_true', List.all_eq_true, Bool.or_eq_true, List.isEmpty_iff] at h
  obtain ⟨h0, h1, h2, h3, h4, h5, h6, h7, h8, h9, h10, h11, h12⟩ := h
  exact ⟨⟨h1, h2, h3, h4, h5, h6, h7⟩, h8, h9, h10, h11, h12, h0⟩
def Tbl.fa (T : Tbl) : List He.Fa := T.ents.map (fun e => He.Fa.glo (Str.ofString e.nm)) ++ (bltNames.map (fun x => He.Fa.free (Str.ofString x)) ++ (T.exs.map (fun x => He.Fa.glo (Str.ofString x)) ++ T.exs.map (fun x => He.Fa.exc (Str.ofString x))))
def Tbl.fd (T : Tbl) : List He.DefD := T.ents.map (·.d)
def Tbl.ex (T : Tbl) (K : PySem.W.Frag) : Bool := T.con.all fun q => conB K (Str.ofString q.1) q.2
/-- how a def's arguments bind -/
def Ent.Binds (e : Ent) : Prop := ∀ (kV doc pm : Value) (an : Option Addr) (cdv ct : Value) (us : List Value), us.length = e.ps.length → bindArgs (PySem.W.fnOf e.d.name e.d.qual e.d.params e.d.body e.d.scope .none kV doc pm an cdv ct) ⟨us, []⟩ = pure (e.ps.zip us)
structure Tbl.Ok (T : Tbl) : Prop where
  ents : (T.ents.all fun e => e.okB T.info) = true
  binds : ∀ e ∈ T.ents, e.Binds

section
variable {K : PySem.W.Frag} {X : XR} {E : XK} {w0 : Wo} {H : Hp} {st : Sto} {Q : VK}
theorem outX_body {m : M Fl} (h : outX K X E w0 H (M.bind m (fun r => match r with
    | .nx _ => M.pure non
    | .ret v => M.pure v) st) (fin K Q)) : outS K X w0 H E w0 H (m st) { nx := fun _ H' => Q .non H', rt := Q } := by
  unfold M.bind at h
  cases q : m st with
  | ok r st1 =>
    rw [q] at h
    cases r with
    | nx env => exact fun w' H' σ _ hE hW => h w' H' hE.ext hW .non .non
    | ret x => exact fun w' H' v e d r => h w' H' e d v r
  | exc c p st1 => rw [q] at h; exact h
  | bad => rw [q] at h; exact h
theorem reps_get {w : Wo} : ∀ {ds : List D} {vs : List V} {i : Nat} {x : D}, Reps K w H ds vs → ds[i]? = some x → ∃ v, vs[i]? = some v ∧ Rep K w H x v
  | [], [], _, _, _, e => by simp at e
  | _ :: _, _ :: _, 0, _, r, e => by simp at e; subst e; exact ⟨_, rfl, r.1⟩
  | _ :: _, _ :: _, i + 1, _, r, e => by
    obtain ⟨v, h1, h2⟩ := reps_get (i := i) r.2 (by simpa using e)
    exact ⟨v, by simpa using h1, h2⟩
  | [], _ :: _, _, _, r, _ => r.elim
  | _ :: _, [], _, _, r, _ => r.elim
theorem env_start {N : List Str} {ds : List D} {vs : List V} (hl : ds.length ≤ N.length) (r : Reps K w0 H ds vs) : EnvOk K w0 H (startE N.length ds) w0 (L2.start N vs) H := by
  have no : ∀ (i : Nat) (ps : List PyData), (startE N.length ds)[i]? ≠ some (.own ps) := fun i ps q => by
    unfold startE at q
    rw [List.getElem?_append] at q
    split at q
    · rw [List.getElem?_map] at q
      obtain ⟨z, _, z2⟩ := Option.map_eq_some_iff.mp q
      cases z2
    · rw [List.getElem?_replicate] at q
      split at q <;> cases q
  refine ⟨Ext.refl, ?_, fun i x q => ?_, fun i ps q => absurd q (no i ps), fun i j ps qs a q => absurd q (no i ps)⟩
  · unfold startE L2.start
    have := reps_len r
    simp
    omega
  · unfold startE at q
    rw [List.getElem?_append] at q
    split at q
    · rename_i hi
      rw [List.getElem?_map] at q
      obtain ⟨z, z1, z2⟩ := Option.map_eq_some_iff.mp q
      cases z2
      obtain ⟨v, h1, h2⟩ := reps_get r z1
      refine ⟨v, ?_, h2⟩
      unfold L2.start
      have := (List.getElem?_eq_some_iff.mp h1).1
      rw [List.getElem?_append_left (by simpa using this), List.getElem?_map, h1]
      rfl
    · rw [List.getElem?_replicate] at q
      split at q <;> cases q
end

/-! ### every def of the table keeps its promise -/
structure Facts (T : Tbl) (K : PySem.W.Frag) (mg : Str → Option Value) : Prop where
  glo : ∀ e ∈ T.ents, mg (Str.ofString e.nm) = some (.ref (He.ga K (Str.ofString e.nm)))
  def_ : ∀ e ∈ T.ents, ∃ fd, FunD K e.d.name e.d.qual e.d.params e.d.body e.d.scope (e.d.dvs K) (e.d.kws K) (He.fAd K e.d.at_) fd
  free : ∀ x ∈ bltNames, mg (Str.ofString x) = none
  exs : ∀ c ∈ T.exs, mg (Str.ofString c) = some (.ref (He.ga K (Str.ofString c))) ∧ PySem.W.excIn K (He.ga K (Str.ofString c)) He.veBase "ValueError.__new__" = true ∧ PySem.W.keepIn K (.ref (He.ga K (Str.ofString c))) = true ∧
    PySem.W.subIn K (.ref (He.ga K (Str.ofString c))) (.type "BaseException") = some true ∧ PySem.W.typeIn K (.ref (He.ga K (Str.ofString c))) = some (.type "type")
  con : ∀ q ∈ T.con, ∃ u v, mg (Str.ofString q.1) = some u ∧ RelV v u ∧ ∀ H, Dq K H v q.2
theorem facts_of {T : Tbl} {K : PySem.W.Frag} {h : Heap} {mg : Str → Option Value} {w : World} (KX : K.In h) (G : h.Ns mainGlobals mg) (c : He.SaysX T.fa T.fd [] [] T.ex w h K) : Facts T K mg := by
  have cd := c.t.d
  refine ⟨fun e he => He.glo_ok KX G (cd.facts (f := .glo (Str.ofString e.nm)) ?_), fun e he => ?_, fun x hx => He.free_ok KX G (cd.facts (f := .free (Str.ofString x)) ?_), fun x hx => ⟨He.glo_ok KX G (cd.facts (f := .glo (Str.ofString x)) ?_), He.exc_ok (cd.facts (f := .exc (Str.ofString x)) ?_)⟩, fun q hq => ?_⟩
  · exact List.mem_append_left _ (List.mem_map.mpr ⟨e, he, rfl⟩)
  · exact cd.defs (d := e.d) (List.mem_map.mpr ⟨e, he, rfl⟩)
  · exact List.mem_append_right _ (List.mem_append_left _ (List.mem_map.mpr ⟨x, hx, rfl⟩))
  · exact List.mem_append_right _ (List.mem_append_right _ (List.mem_append_left _ (List.mem_map.mpr ⟨x, hx, rfl⟩)))
  · exact List.mem_append_right _ (List.mem_append_right _ (List.mem_append_right _ (List.mem_map.mpr ⟨x, hx, rfl⟩)))
  · have c1 := List.all_eq_true.mp (show T.con.all (fun q => conB K (Str.ofString q.1) q.2) = true from c.more) q hq
    unfold conB at c1
    cases e : PySem.W.nsIn K mainGlobals (Str.ofString q.1) with
    | none => rw [e] at c1; cases c1
    | some o =>
      cases o with
      | none => rw [e] at c1; cases c1
      | some u =>
        rw [e] at c1
        obtain ⟨v, r, d⟩ := datB_ok q.2 u c1
        exact ⟨u, v, PySem.W.mg_of KX G e, r, d⟩
theorem find_mem {T : Tbl} {f : String} {e : Ent} (h : T.find f = some e) : e ∈ T.ents ∧ e.nm = f :=
  ⟨List.mem_of_find?_eq_some h, by have := List.find?_some h; simpa using this⟩
theorem gok_mk {T : Tbl} (TO : T.Ok) {P : Program} {w : World} {K : PySem.W.Frag} {mg : Str → Option Value} {base : Heap} (FA : Facts T K mg) (n : Nat)
    (h : ∀ (f : String) (e : Ent), T.find f = some e → ∀ fd, FunD K e.d.name e.d.qual e.d.params e.d.body e.d.scope (e.d.dvs K) (e.d.kws K) (He.ga K (Str.ofString e.nm)) fd → FnG P w K mg base (2 * n) (He.ga K (Str.ofString e.nm)) fd e.ps (spF K (xr mg) (T.run n f))) :
    GOk T.info (T.run n) (xr mg) P w K mg base (2 * n) := by
  refine ⟨fun f m hm => ?_, fun x p hp => ?_, FA.free, fun c hc => ?_⟩
  · have hm' : (T.find f).map (·.ps.length) = some m := hm
    obtain ⟨e, he, rfl⟩ := Option.map_eq_some_iff.mp hm'
    obtain ⟨hmem, hnm⟩ := find_mem he
    obtain ⟨S, l1, l2, l3, l4, l5, l6⟩ := Ent.scope (List.all_eq_true.mp TO.ents e hmem)
    obtain ⟨fd, FD⟩ := FA.def_ e hmem
    have ad : He.fAd K e.d.at_ = He.ga K (Str.ofString e.nm) := by rw [l6]; rfl
    rw [ad] at FD
    have FD' : FunD K e.d.name e.d.qual e.d.params e.d.body e.d.scope [] (e.d.kws K) (He.ga K (Str.ofString e.nm)) fd := by
      have : e.d.dvs K = [] := by unfold He.DefD.dvs; rw [l4]; rfl
      rw [this] at FD
      exact FD
    exact ⟨_, fd, e.ps, rfl, h f e he fd FD, by rw [← hnm]; exact FA.glo e hmem, FD.kp, FD'.bindsN (TO.binds e hmem)⟩
  · have hp' : (T.con.find? fun q => q.1 == x).map (·.2) = some p := hp
    obtain ⟨q, hq, rfl⟩ := Option.map_eq_some_iff.mp hp'
    have e1 : q.1 = x := by have := List.find?_some hq; simpa using this
    obtain ⟨u, v, h1, h2, h3⟩ := FA.con q (List.mem_of_find?_eq_some hq)
    exact ⟨u, v, by rw [← e1]; exact h1, h2, h3⟩
  · have hc' : c ∈ T.exs := by
      have hc : T.exs.contains c = true := hc
      simpa using hc
    obtain ⟨h1, h2, h3, h4, h5⟩ := FA.exs c hc'
    exact ⟨_, h1, h2, h3, h4, h5⟩
theorem fng {T : Tbl} (TO : T.Ok) {P : Program} {w : World} {K : PySem.W.Frag} {mg : Str → Option Value} {base : Heap} (FA : Facts T K mg) (n : Nat) : ∀ (f : String) (e : Ent), T.find f = some e → ∀ fd, FunD K e.d.name e.d.qual e.d.params e.d.body e.d.scope (e.d.dvs K) (e.d.kws K) (He.ga K (Str.ofString e.nm)) fd →
    FnG P w K mg base (2 * n) (He.ga K (Str.ofString e.nm)) fd e.ps (spF K (xr mg) (T.run n f)) := by
  induction n with
  | zero =>
    exact fun f e he fd FD => ⟨fun vs H Q E h => by obtain ⟨_, _, _, _, _, q⟩ := h; exact False.elim q, fun A outer s H args us vs Q E _ _ _ _ _ h => by obtain ⟨_, _, _, _, _, q⟩ := h; exact False.elim q⟩
  | succ n ih0 =>
    have ih := gok_mk TO FA n ih0
    intro f e he fd FD
    obtain ⟨hmem, hnm⟩ := find_mem he
    obtain ⟨S, l1, l2, l3, l4, l5, l6⟩ := Ent.scope (List.all_eq_true.mp TO.ents e hmem)
    have run1 : ∀ ds, T.run (n + 1) f ds = e.fn.run (T.run n) T.cons ds := fun ds => by
      show (match (T.find f).map (·.fn) with
        | some fn => fn.run (T.run n) T.cons ds
        | none => M.bad) = _
      rw [he]
      rfl
    have open_ : ∀ {vs H Q E}, spF K (xr mg) (T.run (n + 1) f) vs H Q E → ∃ w0 st ds, Wd K st w0 H ∧ Reps K w0 H ds vs ∧ ds.length = e.fn.ps ∧ e.fn.ps ≤ e.fn.ns ∧ outS K (xr mg) w0 H E w0 H (e.fn.body.ev (T.run n) T.cons (startE e.fn.ns ds) st) { nx := fun _ H' => Q .non H', rt := Q } := fun {vs H Q E} h => by
      obtain ⟨w0, st, ds, hW, r, q⟩ := h
      rw [run1] at q
      unfold Fn.run at q
      split at q
      · rename_i hc
        exact ⟨w0, st, ds, hW, r, hc.1, hc.2, outX_body q⟩
      · exact False.elim q
    refine def_g (k := 2 * n + 1) FD S (fun vs H Q E h => ?_) fun cdv A outer s H vs Q E hr hg h => ?_
    · obtain ⟨w0, st, ds, _, r, e1, _⟩ := open_ h
      rw [reps_len r, e1, l1]
    · obtain ⟨w0, st, ds, hW, r, e1, e2, q⟩ := open_ h
      have tk : Takes (cxOf (L2.CX P w) P w K mg base e.N e.d.qual e.d.scope (He.ga K (Str.ofString e.nm)) cdv A outer s H E) (fun cls d _ H => E cls d H) := takes_of rfl rfl rfl rfl
      have at_ : AtS T.info (T.run n) (xr mg) (2 * n) e.N e.d.scope (fun _ => true) w0 H (cxOf (L2.CX P w) P w K mg base e.N e.d.qual e.d.scope (He.ga K (Str.ofString e.nm)) cdv A outer s H E) E :=
        ⟨⟨⟨ih, rfl, S.nd, hr, hg, passes_call tk fun _ _ _ _ z => z⟩, rfl, rfl, rfl⟩, tk, passes_of rfl, hW.dom, S.kind, fun c m C H _ e => ⟨C, e, rfl, rfl⟩⟩
      refine ⟨_, sndSs at_ e.fn.body e.d.body l3, w0, st, startE e.fn.ns ds, ?_, hW, q⟩
      rw [l2]
      exact env_start (by rw [e1, ← l2]; exact e2) r
theorem gok {T : Tbl} (TO : T.Ok) {P : Program} {w : World} {K : PySem.W.Frag} {mg : Str → Option Value} {base : Heap} (FA : Facts T K mg) (n : Nat) : GOk T.info (T.run n) (xr mg) P w K mg base (2 * n) := gok_mk TO FA n (fng TO FA n)
end Fb

set_option Elab.async false
set_option linter.all false
set_option maxRecDepth 100000
set_option maxHeartbeats 4000000
/-! from the table to the law -/
namespace Fb
open PySem PySem.Spec PyProof.Rows L2

/-- the def of the law, called by the claim: at every heap behind the text's top -/
theorem call_g {P : Program} {w : World} {K : PySem.W.Frag} {mg mb : Str → Option Value} {k : Nat} {fa a : Addr} {fd : FuncData} {x : Str} {sp : Sp} {s : Shared} {vs : List Value} {ns : List Int} (room : Room k callerA)
    (KX : K.In s.heap) (G : s.heap.Ns mainGlobals mg) (GB : s.heap.Ns builtinsNs mb) (blt : ∀ x : Str, x ≠ "__name__" → mb x = bootBuiltins x) (lim : s.heap.NoLimit) (quiet : s.gens = #[])
    (there : s.heap.get? a = some { cls := .type "list", data := .seq vs.toArray }) (wholes : IntsAre vs ns) (few : ns.length ≤ sizeLine)
    (keeps : ∀ base : Heap, K.In base → base.Ns mainGlobals mg → FnG P w K mg base k fa fd [x] sp) (binds : ∀ (s : Shared) (u : Value), BindsTo s fd ⟨[u], []⟩ [(x, u)])
    (holds : ∀ H : Hp, SqL K H a (ns.map V.int) → sp [.ref a] H (fun v _ => v = .bl true) fun _ _ _ => False) :
    codeAny (model P w) callerA (.call (.ref fa) ⟨[.ref a], []⟩) (fun r s' => r = .ok (.ret (.bool true)) ∧ OldK s.heap s'.heap ∧ s'.os = s.os ∧ AllBare s'.gens) s := by
  have rv : Vals (ns.map V.int) vs := vals_ints wholes
  have lv : vs.length ≤ sizeLine := by rw [wholes.length]; exact few
  -- the script is the module's own object, or the one thing that is tracked
  obtain ⟨H, one, sq, ok, un⟩ : ∃ H : Hp, (∀ b u, H b = some u → b = a ∧ ∃ o xs, u = .frz o (.lst xs)) ∧ SqL K H a (ns.map V.int) ∧ HOk P w H s.heap ∧ (∀ b u, H b = some u → K.lookup b = none) := by
    cases kl : K.lookup a with
    | some o =>
      have oe := (KX a o kl).symm.trans there
      cases oe
      exact ⟨fun _ => none, fun b u z => (nomatch z), .inr ⟨_, _, _, kl, rfl, rfl, rfl, by simpa using lv, by simpa using rv⟩, fun b u z => (nomatch z), fun b u z => (nomatch z)⟩
    | none =>
      refine ⟨upd (fun _ => none) a (.frz { cls := .type "list", data := .seq vs.toArray } (.lst (ns.map V.int))), fun b u z => ?_, .inl (.inr ⟨_, upd_same⟩), fun b u z => ?_, fun b u z => ?_⟩
      all_goals
        by_cases e : b = a
        · subst e
          rw [upd_same] at z
          cases z
          first
            | exact ⟨rfl, _, _, rfl⟩
            | exact ⟨there, by rw [List.length_map]; exact few, vs, _, rv, there⟩
            | exact kl
        · rw [upd_ne e] at z
          cases z
  have stays : ∀ {b : Addr} {o : Obj}, s.heap.get? b = some o → H b = none → (hidT s.heap H).get? b = some o := fun q z => hidT_get q z
  have nsS : ∀ {b : Addr} {m : Str → Option Value}, s.heap.Ns b m → (hidT s.heap H).Ns b m := by
    rintro b m ⟨o, es, ep, q, d, r⟩
    refine ⟨o, es, ep, stays q ?_, d, r⟩
    cases z : H b with
    | none => rfl
    | some u =>
      obtain ⟨rfl, _⟩ := one b u z
      have oe := q.symm.trans there
      cases oe
      cases d
  have KB : K.In (hidT s.heap H) := fun b o q => stays (KX b o q) (by
    cases z : H b with
    | none => rfl
    | some u =>
      have := un b u z
      rw [this] at q
      cases q)
  have env0 : Env0 P w K mg (hidT s.heap H) callerA [] s H :=
    ⟨rfl, ⟨KB, nsS G, ⟨mb, nsS GB, blt⟩, by obtain ⟨mc, h1, h2⟩ := lim; exact ⟨mc, nsS h1, h2⟩⟩, fun b o q => of_hidT q, Nat.le_of_eq (hidT_size _ _), trivial, fun b z => absurd (show b ∈ ([] : List Addr) from z) (by simp), ok, .of_eq quiet⟩
  refine codeAny_mono ((keeps _ KB (nsS G)).run callerA [] s H ⟨[.ref a], []⟩ [.ref a] [.ref a] _ _ room rfl env0 (binds s (.ref a)) (.cons rfl .nil) (holds H sq)) ?_
  intro r s' out
  cases r with
  | error e =>
    obtain ⟨_, _, _, _, _, _, _, _, _, _, _, _, z⟩ := out
    exact z.elim
  | ok fl =>
    cases fl with
    | ret u =>
      obtain ⟨v, H', os, bare, un', ok', r', q⟩ := out
      have q' : v = .bl true := q
      subst q'
      obtain rfl : u = Value.bool true := r'
      refine ⟨rfl, OldK.of_keep fun b o q => ?_, os, bare⟩
      cases z : H b with
      | none => exact un'.keep b o q z (fun y => absurd (show b ∈ ([] : List Addr) from y) (by simp)) (by simp)
      | some u =>
        obtain ⟨_, ob, xs, rfl⟩ := one b u z
        obtain ⟨g1, _⟩ := ok b _ z
        obtain ⟨g2, _⟩ := ok' b _ (un'.frzs b ob _ z)
        rw [q] at g1
        cases g1
        exact g2
    | next => exact False.elim out
    | brk => exact False.elim out
    | cont => exact False.elim out

/-- the law's walk: by the table and the evaluator alone -/
theorem walk_g {l : PySem.W.OpenLaw} {n k : Nat} {q : Program} {loose : List Str} {XP : (Str → Option Value) → Heap → Prop} {d : DefRec} {T : Tbl} (TO : T.Ok) {e : Ent} (he : T.find "law" = some e) (hp : e.ps = [("_law_script" : Str)]) (hd : d.name = Str.ofString "law")
    (hn : l.most = some n) (hn2 : n ≤ sizeLine) (hdf : d.params.defaults = []) (hr : Room (2 * k) callerA)
    (ev : ∀ ns : List Int, ns.length ≤ n → ∃ st, T.run k "law" [.scr ns] [] = .ok (bl true) st) :
    PySem.W.WalkO q loose XP (fun w h => ∃ K : PySem.W.Frag, K.In h ∧ He.SaysX T.fa T.fd [] [] T.ex w h K) l.row.toRowW d [] (fun f vs => PySem.call f vs) := by
  refine Att.attach_call hn hdf fun w s₀ s₁ mg mb fa o pm cd doc a vs ns G Y ho hod hcd hmg hobj hints hlen hg => ?_
  obtain ⟨K, KX, c⟩ := Y
  have FA := facts_of KX G.T.g c
  obtain ⟨hmem, hnm⟩ := find_mem he
  obtain ⟨fd, FD⟩ := FA.def_ e hmem
  obtain ⟨S, l1, l2, l3, l4, l5, l6⟩ := Ent.scope (List.all_eq_true.mp TO.ents e hmem)
  have g1 : mg (Str.ofString "law") = some (.ref fa) := by rw [← hd]; exact hmg
  have FD' : FunD K e.d.name e.d.qual e.d.params e.d.body e.d.scope [] (e.d.kws K) (He.fAd K e.d.at_) fd := by
    have : e.d.dvs K = [] := by unfold He.DefD.dvs; rw [l4]; rfl
    rw [this] at FD
    exact FD
  have ad : He.fAd K e.d.at_ = fa := by
    have z := FA.glo e hmem
    rw [hnm, g1] at z
    have z2 : fa = He.ga K (Str.ofString "law") := by
      have := Option.some.inj z
      exact Value.ref.inj this
    rw [l6, z2, hnm]
    rfl
  refine call_g (x := "_law_script") (sp := spF K (xr mg) (T.run k "law")) (fd := fd) hr KX G.T.g G.T.b G.T.builtins G.T.nolimit hg hobj hints (Nat.le_trans hlen hn2) (fun base h1 h2 => ?_) (fun s u => ?_) fun H sq => ?_
  · have z := fng TO FA k (P := l.prog) (w := w) (base := base) "law" e he fd (by
      have e2 : He.fAd K e.d.at_ = He.ga K (Str.ofString e.nm) := by rw [l6]; rfl
      rw [← e2]
      exact FD)
    have e2 : He.ga K (Str.ofString e.nm) = fa := by rw [← ad, l6]; rfl
    rw [e2, hp] at z
    exact z
  · have b := FD'.bindsA (TO.binds e hmem) s [u] (by rw [hp]; rfl)
    rw [hp] at b
    exact b
  · refine ⟨⟨[], fun _ => False⟩, [], [.scr ns], ⟨List.nodup_nil, rfl, fun _ h => absurd h List.not_mem_nil, fun _ h => False.elim h, fun n o h => (nomatch h)⟩, ⟨⟨a, rfl, ?_⟩, trivial⟩, ?_⟩
    · have : hide (fun _ => False) H = H := by
        funext b
        unfold hide
        simp
      rw [this]
      exact sq
    · obtain ⟨st, e⟩ := ev ns hlen
      rw [e]
      intro w' H' _ _ v r
      cases r
      rfl
end Fb

set_option Elab.async false
set_option linter.all false
set_option maxRecDepth 100000
set_option maxHeartbeats 2000000
/-! helpers for the plain laws: no program in sight -/
namespace Fb
open PySem

theorem run_eq {T : Tbl} {f : String} {e : Ent} (h : T.find f = some e) (n : Nat) (ds : List D) : T.run (n + 1) f ds = e.fn.run (T.run n) T.cons ds := by
  show (match (T.find f).map (·.fn) with
    | some fn => fn.run (T.run n) T.cons ds
    | none => M.bad) = _
  rw [h]
  rfl

/-! ### data that can be shown and compared -/
structure Neat (w d : Nat) (p : PyData) : Prop where
  lay : p.canLay0 = true
  dep : p.depth ≤ d
  wgt : p.weight ≤ w
  sh : p.intsShort 13 = true
  sho : p.showable = true
structure Neats (w d : Nat) (ps : List PyData) : Prop where
  lay : PyData.canLayAll0 ps = true
  dep : PyData.depthAll ps ≤ d
  wgt : PyData.weightAll ps ≤ w
  sh : PyData.intsShortAll 13 ps = true
  sho : PyData.showableAll ps = true
theorem Neat.mono {w w' d d' : Nat} {p : PyData} (h : Neat w d p) (hw : w ≤ w') (hd : d ≤ d') : Neat w' d' p := ⟨h.lay, Nat.le_trans h.dep hd, Nat.le_trans h.wgt hw, h.sh, h.sho⟩
theorem Neats.mono {w w' d d' : Nat} {p : List PyData} (h : Neats w d p) (hw : w ≤ w') (hd : d ≤ d') : Neats w' d' p := ⟨h.lay, Nat.le_trans h.dep hd, Nat.le_trans h.wgt hw, h.sh, h.sho⟩
theorem Neat.none : Neat 0 0 .none := ⟨rfl, Nat.le_refl _, Nat.le_refl _, rfl, rfl⟩
theorem Neat.bool (b : Bool) : Neat 0 0 (.bool b) := ⟨rfl, Nat.le_refl _, Nat.le_refl _, rfl, rfl⟩
theorem Neat.int {i : Int} (h : i.natAbs < 10 ^ 12) : Neat 41 0 (.int i) := by
  have hl : i ≠ 0 → i.natAbs.log2 < 40 := fun h0 => (Nat.log2_lt (by omega)).mpr (Nat.lt_trans h (by decide))
  refine ⟨rfl, Nat.le_refl _, ?_, ?_, ?_⟩
  · show (if i == 0 then 0 else i.natAbs.log2 + 1) ≤ 41
    by_cases h0 : i = 0
    · simp [h0]
    · have := hl h0
      simp [h0]
      omega
  · show decide ((PyData.shown (.int i)).length ≤ 13) = true
    exact decide_eq_true (PyData.shown_int_le h)
  · show decide (i.natAbs.log2 < 1920) = true
    by_cases h0 : i = 0
    · subst h0; decide +kernel
    · have := hl h0
      exact decide_eq_true (by omega)
theorem Neats.nil : Neats 0 0 [] := ⟨rfl, Nat.le_refl _, Nat.le_refl _, rfl, rfl⟩
theorem Neats.cons {w1 w2 d : Nat} {p : PyData} {ps : List PyData} (h : Neat w1 d p) (t : Neats w2 d ps) : Neats (w1 + 1 + w2) d (p :: ps) := by
  refine ⟨?_, ?_, ?_, ?_, ?_⟩
  · simp only [PyData.canLayAll0, h.lay, t.lay, Bool.and_self]
  · simp only [PyData.depthAll]
    exact Nat.max_le.mpr ⟨h.dep, t.dep⟩
  · simp only [PyData.weightAll]
    have := h.wgt
    have := t.wgt
    omega
  · simp only [PyData.intsShortAll, h.sh, t.sh, Bool.and_self]
  · simp only [PyData.showableAll, h.sho, t.sho, Bool.and_self]
theorem Neats.all {w d : Nat} : ∀ {ps : List PyData}, (∀ p ∈ ps, Neat w d p) → Neats ((w + 1) * ps.length) d ps
  | [], _ => Neats.nil.mono (Nat.zero_le _) (Nat.zero_le _)
  | p :: ps, h => (Neats.cons (h p List.mem_cons_self) (Neats.all fun q hq => h q (List.mem_cons_of_mem _ hq))).mono (by rw [List.length_cons, Nat.mul_succ]; omega) (Nat.le_refl _)
theorem Neat.tuple {w d : Nat} {ps : List PyData} (h : Neats w d ps) : Neat w (d + 1) (.tuple ps) := ⟨h.lay, Nat.succ_le_succ h.dep, h.wgt, h.sh, h.sho⟩
theorem Neat.list {w d : Nat} {ps : List PyData} (h : Neats w d ps) : Neat w (d + 1) (.list ps) := ⟨h.lay, Nat.succ_le_succ h.dep, h.wgt, h.sh, h.sho⟩
theorem Neats.ints {ns : List Int} (h : ∀ n ∈ ns, n.natAbs < 10 ^ 12) : Neats (42 * ns.length) 0 (ns.map .int) := by
  have := Neats.all (w := 41) (d := 0) (ps := ns.map .int) fun p hp => by
    obtain ⟨n, hn, rfl⟩ := List.mem_map.mp hp
    exact Neat.int (h n hn)
  rwa [List.length_map] at this
theorem Neat.shaped {w d : Nat} {p : PyData} (h : Neat w d p) (hd : d ≤ 64) : SeqAt.shaped p = true := by
  unfold SeqAt.shaped
  rw [h.lay]
  exact decide_eq_true (Nat.le_trans h.dep hd)
theorem Neat.repr {w d : Nat} {p : PyData} (h : Neat w d p) (hw : w ≤ 1048576) (hd : d ≤ 64) : Bl.run .repr [p] = some (.str p.shown) := by
  have hl : PyData.layable0 p = true := by
    show (PyData.canLay0 p && decide (PyData.depth p ≤ 64) && decide (PyData.weight p ≤ 2 ^ 20)) = true
    rw [h.lay, decide_eq_true (Nat.le_trans h.dep hd), decide_eq_true (Nat.le_trans h.wgt (Nat.le_trans hw (by decide)))]
    rfl
  have hs := PyData.shown_le_of_layable0 hl h.sh
  have hf : fitsLine p.shown.length = true := decide_eq_true (by omega)
  show (if p.showable && !p.hasDict && fitsLine p.shown.length && SeqAt.shaped p then some (PyData.str p.shown) else Option.none) = _
  rw [h.sho, PyData.hasDict_of_canLay p h.lay, hf, h.shaped hd]
  rfl
theorem Neat.eq {w d : Nat} {p : PyData} (h : Neat w d p) (hd : d ≤ 64) : eqP p p = some true := by
  unfold eqP
  split
  · simp
  · simp
  · simp
  · rw [h.shaped hd, SeqAt.eqv_refl p h.lay]
    rfl

/-- m, run at a store -/
def M.at {α : Type} (m : M α) (st : Sto) : Out α := m st
@[simp] theorem at_pure {α : Type} (a : α) (st : Sto) : (M.pure a).at st = .ok a st := rfl
theorem at_bind {α β : Type} {m : M α} {f : α → M β} {st s' : Sto} {a : α} (h : m.at st = .ok a s') : (M.bind m f).at st = (f a).at s' := bind_at h
theorem at_lift {α β : Type} {f : α → M β} {st : Sto} (a : α) : (M.bind (M.lift (some a)) f).at st = (f a).at st := rfl
/-! ### loops -/
theorem forL_pure {f : D → Env → M Fl} {I : Env → Prop} : ∀ {xs : List D} {env : Env}, (∀ x ∈ xs, ∀ env, I env → ∃ env', f x env = M.pure (.nx env') ∧ I env') → I env → ∃ env', forL f xs env = M.pure (.nx env') ∧ I env'
  | [], env, _, h => ⟨env, rfl, h⟩
  | x :: xs, env, hf, h => by
    obtain ⟨e1, h1, i1⟩ := hf x List.mem_cons_self env h
    obtain ⟨e2, h2, i2⟩ := forL_pure (fun y hy => hf y (List.mem_cons_of_mem _ hy)) i1
    exact ⟨e2, by rw [forL, h1, M.pure_bind]; exact h2, i2⟩
theorem forL_ok {f : D → Env → M Fl} {I : Env → Sto → Prop} : ∀ {xs : List D} {env : Env} {st : Sto}, (∀ x ∈ xs, ∀ env st, I env st → ∃ env' st', (f x env).at st = .ok (.nx env') st' ∧ I env' st') → I env st → ∃ env' st', (forL f xs env).at st = .ok (.nx env') st' ∧ I env' st'
  | [], env, st, _, h => ⟨env, st, rfl, h⟩
  | x :: xs, env, st, hf, h => by
    obtain ⟨e1, s1, h1, i1⟩ := hf x List.mem_cons_self env st h
    obtain ⟨e2, s2, h2, i2⟩ := forL_ok (xs := xs) (fun y hy => hf y (List.mem_cons_of_mem _ hy)) i1
    exact ⟨e2, s2, by rw [forL, at_bind h1]; exact h2, i2⟩
/-- each turn gives some, all that with P -/
theorem flatM_ok {f : D → M (List PyData)} {I : Sto → Prop} {P : PyData → Prop} : ∀ {xs : List D} {st : Sto}, (∀ x ∈ xs, ∀ st, I st → ∃ p st', (f x).at st = .ok [p] st' ∧ I st' ∧ P p) → I st → ∃ ps st', (flatM f xs).at st = .ok ps st' ∧ I st' ∧ ps.length = xs.length ∧ ∀ p ∈ ps, P p
  | [], st, _, h => ⟨[], st, rfl, h, rfl, fun _ h => absurd h List.not_mem_nil⟩
  | x :: xs, st, hf, h => by
    obtain ⟨p, s1, h1, i1, p1⟩ := hf x List.mem_cons_self st h
    obtain ⟨ps, s2, h2, i2, l2, p2⟩ := flatM_ok (xs := xs) (fun y hy => hf y (List.mem_cons_of_mem _ hy)) i1
    refine ⟨p :: ps, s2, ?_, i2, by simp [l2], fun q hq => ?_⟩
    · rw [flatM, at_bind h1, at_bind h2]
      rfl
    · rcases List.mem_cons.mp hq with e | e
      · rw [e]; exact p1
      · exact p2 q e
theorem flatM_pure {f : D → M (List PyData)} {g : D → PyData} : ∀ {xs : List D}, (∀ x ∈ xs, f x = M.pure [g x]) → flatM f xs = M.pure (xs.map g)
  | [], _ => rfl
  | x :: xs, hf => by
    rw [flatM, hf x List.mem_cons_self, flatM_pure fun y hy => hf y (List.mem_cons_of_mem _ hy)]
    rfl
theorem mem_rangeL {lo : Int} {n : Nat} {x : D} (h : x ∈ rangeL lo n) : ∃ k : Nat, k < n ∧ x = int (lo + k) := by
  unfold rangeL at h
  obtain ⟨k, h1, h2⟩ := List.mem_map.mp h
  exact ⟨k, List.mem_range.mp h1, h2.symm⟩
theorem intsOf_map : ∀ ns : List Int, intsOf (ns.map .int) = some ns
  | [] => rfl
  | n :: r => by simp [intsOf, intsOf_map r]
theorem boolsOf_map : ∀ ns : List Bool, boolsOf (ns.map .bool) = some ns
  | [] => rfl
  | n :: r => by simp [boolsOf, boolsOf_map r]
theorem datas_map : ∀ ps : List PyData, datas (ps.map D.d) = some ps
  | [] => rfl
  | n :: r => by simp [datas, datas_map r]

/-! ### one step of the evaluator -/
section
variable {st : Sto} {n : Nat} {k i j : Int} {xs ys : List PyData} {x y : PyData} {v : D} {α : Type}
@[simp] theorem runD_d (f : Bl) (p : PyData) : Bl.runD f [.d p] = M.lift ((f.run [p]).map D.d) := by cases f <;> rfl
@[simp] theorem runD_d2 (f : Bl) (p q : PyData) : Bl.runD f [.d p, .d q] = M.lift ((f.run [p, q]).map D.d) := by cases f <;> rfl
@[simp] theorem runD_scr (ns : List Int) : Bl.runD .len [.scr ns] = M.pure (.d (.int ns.length)) := rfl
@[simp] theorem ixD_d (p : PyData) : ixD (.d p) (.int k) = M.lift ((ixP p k).map D.d) := rfl
@[simp] theorem ixD_scr (ns : List Int) : ixD (.scr ns) (.int k) = M.lift ((L2.atI ns k).map fun i => .d (.int i)) := rfl
@[simp] theorem ixP_tup : ixP (.tuple xs) k = L2.atI xs k := rfl
@[simp] theorem ixP_lst : ixP (.list xs) k = L2.atI xs k := rfl
theorem bind_ix {zs : List D} {f : D → M α} (h : st[n]? = some (.lst zs)) (e : L2.atI zs k = some v) : (M.bind (ixD (.ref n) (.int k)) f).at st = (f v).at st := by
  refine at_bind ?_
  show (match st[n]? with
    | some (.lst xs) => (match L2.atI xs k with
      | some v => Out.ok v st
      | none => .bad)
    | none => .bad) = _
  rw [h]
  simp only
  rw [e]
theorem bind_rset {zs : List D} {f : Unit → M α} {m : Nat} (h : st[n]? = some (.lst zs)) (e : L2.ixN zs.length k = some m) : (M.bind (rsetM (.ref n) (.int k) v) f).at st = (f ()).at (st.set n (.lst (zs.set m v))) := by
  rw [rset_eq]
  refine at_bind ?_
  show rsetRef n k v st = _
  unfold rsetRef
  rw [h]
  simp only
  rw [e]
@[simp] theorem add_int : Bo.run .add (.int i) (.int j) = some (.int (i + j)) := rfl
@[simp] theorem sub_int : Bo.run .sub (.int i) (.int j) = some (.int (i - j)) := rfl
theorem mul_int : Bo.run .mul (.int i) (.int j) = if fits64 i || fits64 j then some (.int (i * j)) else none := rfl
theorem fdiv_int : Bo.run .fdiv (.int i) (.int j) = if 0 < j ∧ j < 1073741824 then some (.int (i / j)) else none := rfl
theorem mod_int : Bo.run .mod (.int i) (.int j) = if 0 < j then some (.int (i % j)) else none := rfl
theorem pow_int : Bo.run .pow (.int i) (.int j) = if 0 ≤ j ∧ j ≤ 1000000 ∧ i.natAbs < 2 ^ 64 then some (.int (i ^ j.toNat)) else none := rfl
theorem add_tup : Bo.run .add (.tuple xs) (.tuple ys) = if fitsLine (xs.length + ys.length) then some (.tuple (xs ++ ys)) else none := rfl
theorem add_lst : Bo.run .add (.list xs) (.list ys) = if fitsLine (xs.length + ys.length) then some (.list (xs ++ ys)) else none := rfl
theorem mul_lst : Bo.run .mul (.list xs) (.int k) = if 0 ≤ k ∧ k ≤ 1000 ∧ xs.length ≤ 1000 then some (.list (List.replicate k.toNat xs).flatten) else none := rfl
@[simp] theorem eq_run : Cm.run .eq x y = eqP x y := rfl
@[simp] theorem ne_run : Cm.run .ne x y = (eqP x y).map not := rfl
@[simp] theorem eqP_int : eqP (.int i) (.int j) = some (decide (i = j)) := rfl
@[simp] theorem eqP_str (a b : Str) : eqP (.str a) (.str b) = some (decide (a = b)) := rfl
@[simp] theorem eqP_bool (a b : Bool) : eqP (.bool a) (.bool b) = some (decide (a = b)) := rfl
@[simp] theorem lt_run : Cm.run .lt (.int i) (.int j) = some (decide (i < j)) := rfl
@[simp] theorem le_run : Cm.run .le (.int i) (.int j) = some (decide (i ≤ j)) := rfl
@[simp] theorem gt_run : Cm.run .gt (.int i) (.int j) = some (decide (j < i)) := rfl
@[simp] theorem ge_run : Cm.run .ge (.int i) (.int j) = some (decide (j ≤ i)) := rfl
@[simp] theorem truth_bool (b : Bool) : truth (.bool b) = some b := rfl
@[simp] theorem truth_int : truth (.int i) = some (i != 0) := rfl
@[simp] theorem truth_list : truth (.list xs) = some (!xs.isEmpty) := rfl
@[simp] theorem truth_tuple : truth (.tuple xs) = some (!xs.isEmpty) := rfl
@[simp] theorem truth_none : truth .none = some false := rfl
@[simp] theorem len_tup : Bl.run .len [.tuple xs] = some (.int xs.length) := rfl
@[simp] theorem len_lst : Bl.run .len [.list xs] = some (.int xs.length) := rfl
@[simp] theorem tuple_tup : Bl.run .tuple [.tuple xs] = some (.tuple xs) := rfl
@[simp] theorem tuple_lst : Bl.run .tuple [.list xs] = some (.tuple xs) := rfl
@[simp] theorem list_tup : Bl.run .list [.tuple xs] = some (.list xs) := rfl
@[simp] theorem list_lst : Bl.run .list [.list xs] = some (.list xs) := rfl
@[simp] theorem sum_lst : Bl.run .sum [.list xs] = (intsOf xs).map fun ns => .int ns.sum := rfl
@[simp] theorem sum_tup : Bl.run .sum [.tuple xs] = (intsOf xs).map fun ns => .int ns.sum := rfl
@[simp] theorem all_lst : Bl.run .all [.list xs] = (boolsOf xs).map fun bs => .bool (bs.all id) := rfl
@[simp] theorem any_lst : Bl.run .any [.list xs] = (boolsOf xs).map fun bs => .bool (bs.any id) := rfl
@[simp] theorem abs_int : Bl.run .abs [.int i] = some (.int (if i < 0 then -i else i)) := rfl
@[simp] theorem max2_int : Bl.run .max2 [.int i, .int j] = some (.int (if j > i then j else i)) := rfl
@[simp] theorem min2_int : Bl.run .min2 [.int i, .int j] = some (.int (if j < i then j else i)) := rfl
@[simp] theorem seqP_tup : seqP (.tuple xs) = some xs := rfl
@[simp] theorem seqP_lst : seqP (.list xs) = some xs := rfl
end
@[simp] theorem get_v (x : D) : Sl.get (.v x) = some x := rfl
@[simp] theorem datas_nil : datas [] = some [] := rfl
@[simp] theorem datas_cons (p : PyData) (xs : List D) : datas (.d p :: xs) = (datas xs).map (p :: ·) := rfl
theorem bind_nm (i : Nat) (x : D) (env : Env) : (T.nm i).bind x env = if i < env.length then some (env.set i (.v x)) else none := by
  unfold T.bind
  rfl
theorem bind_tp (ts : Ts) (ps : List PyData) (env : Env) : (T.tp ts).bind (.d (.tuple ps)) env = ts.bind (ps.map D.d) env := by
  rw [T.bind]
theorem bind_nil (env : Env) : Ts.nil.bind [] env = some env := by
  rw [Ts.bind]
theorem bind_cons (t : T) (ts : Ts) (x : D) (xs : List D) (env : Env) : (Ts.cons t ts).bind (x :: xs) env = (t.bind x env).bind fun env' => ts.bind xs env' := by
  rw [Ts.bind]
/-! ### loops with their bodies kept whole -/
section
variable (Φ : Calls) (C : Cons)
def forB (t : T) (b : Ss) (xs : List D) (env : Env) : M Fl := forL (fun x env => M.bind (M.lift (t.bind x env)) fun env' => b.ev Φ C env') xs env
def whiB (t : E) (b : Ss) (n : Nat) (env : Env) : M Fl := whileL (fun env => t.tst Φ C env) (fun env => b.ev Φ C env) n env
def genB (t : T) (c : Oe) (g : G) (env : Env) (xs : List D) : M (List PyData) := flatM (fun x => M.bind (M.lift (t.bind x env)) fun env' => M.bind (c.ok Φ C env') fun k => if k = true then g.ev Φ C env' else M.pure []) xs
theorem for_fold (t : T) (b : Ss) (xs : List D) (env : Env) : forL (fun x env => M.bind (M.lift (t.bind x env)) fun env' => b.ev Φ C env') xs env = forB Φ C t b xs env := rfl
theorem whi_fold (t : E) (b : Ss) (n : Nat) (env : Env) : whileL (fun env => t.tst Φ C env) (fun env => b.ev Φ C env) n env = whiB Φ C t b n env := rfl
theorem gen_fold (t : T) (c : Oe) (g : G) (env : Env) (xs : List D) : flatM (fun x => M.bind (M.lift (t.bind x env)) fun env' => M.bind (c.ok Φ C env') fun k => if k = true then g.ev Φ C env' else M.pure []) xs = genB Φ C t c g env xs := rfl
theorem forB_nil (t : T) (b : Ss) (env : Env) : forB Φ C t b [] env = M.pure (.nx env) := rfl
theorem forB_cons (t : T) (b : Ss) (x : D) (xs : List D) (env : Env) : forB Φ C t b (x :: xs) env = M.bind (M.lift (t.bind x env)) fun env' => M.bind (b.ev Φ C env') fun r => match r with
    | .nx e => forB Φ C t b xs e
    | .ret v => M.pure (.ret v) := by
  unfold forB
  rw [forL, M.bind_bind] <;> rfl
variable {Φ C}
/-- every turn keeps I -/
theorem forB_ok {t : T} {b : Ss} {I : Env → Sto → Prop} {xs : List D} {env : Env} {st : Sto} (h : ∀ x ∈ xs, ∀ env st, I env st → ∃ e1 e2 st', t.bind x env = some e1 ∧ (b.ev Φ C e1).at st = .ok (.nx e2) st' ∧ I e2 st') (i : I env st) : ∃ env' st', (forB Φ C t b xs env).at st = .ok (.nx env') st' ∧ I env' st' :=
  forL_ok (I := I) (fun x hx env st j => by
    obtain ⟨e1, e2, st', h1, h2, h3⟩ := h x hx env st j
    exact ⟨e2, st', by rw [h1]; exact h2, h3⟩) i
theorem genB_pure {t : T} {e : E} {g : D → PyData} {env : Env} {xs : List D} (h : ∀ x ∈ xs, ∃ e1, t.bind x env = some e1 ∧ e.ev Φ C e1 = M.pure (.d (g x))) : genB Φ C t .no (.fin e) env xs = M.pure (xs.map g) :=
  flatM_pure fun x hx => by
    obtain ⟨e1, h1, h2⟩ := h x hx
    rw [h1]
    simp only [M.lift_some, M.pure_bind, Oe.ok, if_true, G.ev, h2, need_d]
theorem genB_ok {t : T} {e : E} {I : Sto → Prop} {P : PyData → Prop} {env : Env} {xs : List D} {st : Sto} (h : ∀ x ∈ xs, ∀ st, I st → ∃ e1 p st', t.bind x env = some e1 ∧ (e.ev Φ C e1).at st = .ok (.d p) st' ∧ I st' ∧ P p) (i : I st) :
    ∃ ps st', (genB Φ C t .no (.fin e) env xs).at st = .ok ps st' ∧ I st' ∧ ps.length = xs.length ∧ ∀ p ∈ ps, P p :=
  flatM_ok (I := I) (P := P) (fun x hx st j => by
    obtain ⟨e1, p, st', h1, h2, h3, h4⟩ := h x hx st j
    refine ⟨p, st', ?_, h3, h4⟩
    rw [h1]
    simp only [M.lift_some, M.pure_bind, Oe.ok, if_true, G.ev]
    rw [at_bind h2]
    rfl) i
end
theorem at_calm {α : Type} {m : M α} {st s' : Sto} {a : α} (h : m.at st = .ok a s') : (M.calm m).at st = .ok a s' := by
  show (match m st with
    | .ok a s' => Out.ok a s'
    | _ => .bad) = _
  rw [show m st = .ok a s' from h]
theorem rangeM_ok {i j : Int} (h1 : -1000000 ≤ i) (h2 : i ≤ 1000000) (h3 : -1000000 ≤ j) (h4 : j ≤ 1000000) : rangeM i j = M.pure (rangeL i (j - i).toNat) := by
  have e1 : rng62 i = true := by
    unfold rng62
    rw [decide_eq_true (by omega), decide_eq_true (by omega)]
    rfl
  have e2 : rng62 j = true := by
    unfold rng62
    rw [decide_eq_true (by omega), decide_eq_true (by omega)]
    rfl
  have e3 : fitsLine (j - i).toNat = true := decide_eq_true (by omega)
  unfold rangeM
  rw [e1, e2, e3]
  rfl
theorem ints_of {Q : Int → Prop} : ∀ {ps : List PyData}, (∀ p ∈ ps, ∃ i, p = .int i ∧ Q i) → ∃ ns : List Int, ps = ns.map .int ∧ ∀ i ∈ ns, Q i
  | [], _ => ⟨[], rfl, fun _ h => absurd h List.not_mem_nil⟩
  | p :: ps, h => by
    obtain ⟨i, rfl, q⟩ := h p List.mem_cons_self
    obtain ⟨ns, rfl, r⟩ := ints_of fun q hq => h q (List.mem_cons_of_mem _ hq)
    refine ⟨i :: ns, rfl, fun j hj => ?_⟩
    rcases List.mem_cons.mp hj with e | e
    · rw [e]; exact q
    · exact r j e
section
variable {Φ : Calls} {C : Cons}
/-- turn by turn -/
theorem forB_ix {t : T} {b : Ss} {I : Nat → Env → Sto → Prop} : ∀ {xs : List D} (k : Nat) {env : Env} {st : Sto}, (∀ i (hi : i < xs.length) env st, I (k + i) env st → ∃ e1 e2 st', t.bind xs[i] env = some e1 ∧ (b.ev Φ C e1).at st = .ok (.nx e2) st' ∧ I (k + i + 1) e2 st') → I k env st →
    ∃ env' st', (forB Φ C t b xs env).at st = .ok (.nx env') st' ∧ I (k + xs.length) env' st'
  | [], k, env, st, _, i => ⟨env, st, rfl, i⟩
  | x :: xs, k, env, st, h, i => by
    obtain ⟨e1, e2, s1, h1, h2, h3⟩ := h 0 (by simp) env st i
    obtain ⟨e3, s3, h4, h5⟩ := forB_ix (xs := xs) (k + 1) (fun j hj env st q => by
      have := h (j + 1) (by simpa using hj) env st (by rw [show k + (j + 1) = k + 1 + j by omega]; exact q)
      rw [show k + (j + 1) + 1 = k + 1 + j + 1 by omega] at this
      simpa using this) h3
    refine ⟨e3, s3, ?_, by rw [List.length_cons, show k + (xs.length + 1) = k + 1 + xs.length by omega]; exact h5⟩
    have h1' : t.bind x env = some e1 := h1
    rw [forB_cons, h1', M.lift_some, M.pure_bind, at_bind h2]
    exact h4
/-- [e for t in xs if c]: those that are kept -/
theorem genB_filter {t : T} {c e : E} {g : D → PyData} {keep : D → Bool} {env : Env} : ∀ {xs : List D}, (∀ x ∈ xs, ∃ e1, t.bind x env = some e1 ∧ c.tst Φ C e1 = M.pure (keep x) ∧ (keep x = true → e.ev Φ C e1 = M.pure (.d (g x)))) → genB Φ C t (.yes c) (.fin e) env xs = M.pure ((xs.filter keep).map g)
  | [], _ => rfl
  | x :: xs, h => by
    obtain ⟨e1, h1, h2, h3⟩ := h x List.mem_cons_self
    have ih := genB_filter (xs := xs) fun y hy => h y (List.mem_cons_of_mem _ hy)
    unfold genB at ih ⊢
    rw [flatM, ih, h1]
    simp only [M.lift_some, M.pure_bind, Oe.ok, h2]
    cases q : keep x with
    | true =>
      simp only [if_true, G.ev, h3 q, M.pure_bind, need_d]
      simp [q]
    | false =>
      simp [q]
end
theorem atI_last {α : Type} (xs : List α) (x : α) : L2.atI (xs ++ [x]) (-1) = some x := by
  have e : (-1 + ((xs.length : Int) + 1)).toNat = xs.length := by omega
  simp [L2.atI, L2.ixN]
  rw [if_pos (by omega), e]
  simp
theorem fits_small {n : Nat} (h : n ≤ 1000) : fitsLine n = true := decide_eq_true (by omega)
theorem fits64_of {i : Int} (h0 : -1000000000000 ≤ i) (h1 : i ≤ 1000000000000) : fits64 i = true := by
  unfold fits64
  rw [decide_eq_true (by omega), decide_eq_true (by omega)]
  rfl
theorem all_tt {α : Type} {l : List α} : (l.all fun _ => true) = true := by
  induction l with
  | nil => rfl
  | cons a r ih => simp
theorem all_true {α : Type} {l : List α} : boolsOf (l.map fun _ => PyData.bool true) = some (l.map fun _ => true) := by
  induction l with
  | nil => rfl
  | cons a r ih => simp [boolsOf, ih]
/-! ### statement by statement -/
section
variable {Φ : Calls} {C : Cons}
theorem at_cons {s : S} {ss : Ss} {env env' : Env} {st st' : Sto} (h : (s.ev Φ C env).at st = .ok (.nx env') st') : ((Ss.cons s ss).ev Φ C env).at st = (ss.ev Φ C env').at st' := by
  rw [Ss.ev, at_bind h]
theorem at_last {s : S} {ss : Ss} {env : Env} {v : D} {st st' : Sto} (h : (s.ev Φ C env).at st = .ok (.ret v) st') : ((Ss.cons s ss).ev Φ C env).at st = .ok (.ret v) st' := by
  rw [Ss.ev, at_bind h]
  rfl
theorem at_run {f : Fn} {xs : List D} {st st' : Sto} {v : D} (hl : xs.length = f.ps ∧ f.ps ≤ f.ns) (h : (f.body.ev Φ C (startE f.ns xs)).at st = .ok (.ret v) st') : (f.run Φ C xs).at st = .ok v st' := by
  unfold Fn.run
  rw [if_pos hl, at_bind h]
  rfl
end
end Fb

set_option Elab.async false
set_option linter.all false
set_option maxRecDepth 100000
set_option maxHeartbeats 0
namespace Lw
open PySem PySem.Spec PyProof.Rows L2 Fb
abbrev prg : Program := (PySem.Challenge.rw_farbeats_k22_where_houses_are).prog
def top (i : Nat) : Stmt := prg.main.body.getD i (.Pass ⟨0, 0, 0, 0⟩)
def f_is_whole : Fn := ⟨1, 1, (.cons (.ret (.and (.isi (.var 0) .int) (.not (.isi (.var 0) .bool)))) .nil)⟩
def f_is_within : Fn := ⟨3, 3, (.cons (.ret (.and (.call "is_whole" (.cons (.var 0) .nil)) (.chn .le .le (.var 1) (.var 0) (.var 2)))) .nil)⟩
def f_rises_c1 : Fb.E := (.cmp .lt (.var 1) (.var 2))
def f_rises : Fn := ⟨1, 3, (.cons (.ret (.blt .all (.cons (.lc [1, 2] (.gen (.zip (.var 0) (.cut (.var 0) (.yes (.cst (.int 1))) .no)) (.tp (.cons (.nm 1) (.cons (.nm 2) .nil))) .no (.fin f_rises_c1))) .nil))) .nil)⟩
def f_is_way_c1 : Fb.E := (.call "is_within" (.cons (.var 1) (.cons (.var 2) (.cons (.var 3) .nil))))
def f_is_way : Fn := ⟨1, 4, (.cons (.ifs (.or (.not (.isi (.var 0) .tuple)) (.cmp .ne (.blt .len (.cons (.var 0) .nil)) (.blt .len (.cons (.glo "BOUNDS") .nil)))) (.cons (.ret (.cst (.bool false))) .nil) .nil) (.cons (.ret (.blt .all (.cons (.lc [1, 2, 3] (.gen (.zip (.var 0) (.glo "BOUNDS")) (.tp (.cons (.nm 1) (.cons (.tp (.cons (.nm 2) (.cons (.nm 3) .nil))) .nil))) .no (.fin f_is_way_c1))) .nil))) .nil))⟩
def f_is_house_c1 : Fb.E := (.call "is_way" (.cons (.var 2) .nil))
def f_is_house_c2 : Fb.E := (.ix (.var 1) (.cst (.int 0)))
def f_is_house : Fn := ⟨1, 3, (.cons (.ifs (.or (.not (.isi (.var 0) .tuple)) (.or (.not (.chn .le .le (.cst (.int 1)) (.blt .len (.cons (.var 0) .nil)) (.glo "MOST_WAYS"))) (.not (.blt .all (.cons (.lc [2] (.gen (.seq (.var 0)) (.nm 2) .no (.fin f_is_house_c1))) .nil))))) (.cons (.ret (.cst (.bool false))) .nil) .nil) (.cons (.ret (.call "rises" (.cons (.lc [1] (.gen (.seq (.var 0)) (.nm 1) .no (.fin f_is_house_c2))) .nil))) .nil))⟩
def f_need_house : Fn := ⟨1, 1, (.cons (.ifs (.not (.call "is_house" (.cons (.var 0) .nil))) (.cons (.raise "NoHouse" "no house") .nil) .nil) .nil)⟩
def f_need_tick : Fn := ⟨1, 1, (.cons (.ifs (.not (.call "is_within" (.cons (.var 0) (.cons (.cst (.int 0)) (.cons (.glo "MOST_TICK") .nil))))) (.cons (.raise "NoTick" "no tick") .nil) .nil) .nil)⟩
def f_place_by_l1 : Fb.Ss := (.cons (.ifs (.cmp .le (.var 3) (.var 1)) (.cons (.set (.nm 2) (.tup (.cons (.bin .add (.var 4) (.bin .mul (.bin .sub (.var 1) (.var 3)) (.var 6))) (.cons (.bin .add (.var 5) (.bin .mul (.bin .sub (.var 1) (.var 3)) (.var 7))) .nil)))) .nil) .nil) .nil)
def f_place_by : Fn := ⟨2, 8, (.cons (.set (.nm 2) (.cst (.none))) (.cons (.for_ (.seq (.var 0)) (.tp (.cons (.nm 3) (.cons (.nm 4) (.cons (.nm 5) (.cons (.nm 6) (.cons (.nm 7) .nil)))))) f_place_by_l1) (.cons (.ret (.var 2)) .nil)))⟩
def f_place_at : Fn := ⟨2, 2, (.cons (.expr (.call "need_house" (.cons (.var 0) .nil))) (.cons (.expr (.call "need_tick" (.cons (.var 1) .nil))) (.cons (.ret (.call "place_by" (.cons (.var 0) (.cons (.var 1) .nil)))) .nil)))⟩
def f__law_cell_at : Fn := ⟨2, 2, (.cons (.ifs (.cmp .lt (.var 1) (.blt .len (.cons (.var 0) .nil))) (.cons (.ret (.ix (.var 0) (.var 1))) .nil) .nil) (.cons (.ret (.cst (.int 0))) .nil))⟩
def f__law_pen : Fn := ⟨1, 1, (.cons (.ret (.nref (.cons (.blt .max2 (.cons (.cst (.int 0)) (.cons (.bin .sub (.var 0) (.bin .pow (.cst (.int 10)) (.cst (.int 18)))) .nil))) (.cons (.bin .add (.bin .mod (.var 0) (.cst (.int 2147483629))) (.cst (.int 1))) (.cons (.cst (.int 0)) .nil))))) .nil)⟩
def f__law_draw : Fn := ⟨2, 4, (.cons (.ifs (.cmp .gt (.ix (.var 0) (.cst (.int 0))) (.cst (.int 0))) (.cons (.set (.nm 3) (.bin .mod (.ix (.var 0) (.cst (.int 0))) (.var 1))) (.cons (.rset (.var 0) (.cst (.int 0)) (.bin .fdiv (.ix (.var 0) (.cst (.int 0))) (.var 1))) (.cons (.ret (.var 3)) .nil))) .nil) (.cons (.rset (.var 0) (.cst (.int 2)) (.bin .add (.ix (.var 0) (.cst (.int 2))) (.cst (.int 1)))) (.cons (.rset (.var 0) (.cst (.int 1)) (.bin .mod (.bin .add (.bin .add (.bin .mul (.ix (.var 0) (.cst (.int 1))) (.cst (.int 48271))) (.bin .mul (.cst (.int 1009)) (.ix (.var 0) (.cst (.int 2))))) (.cst (.int 7))) (.cst (.int 2147483647)))) (.cons (.set (.nm 2) (.bin .mod (.bin .add (.bin .add (.bin .mul (.ix (.var 0) (.cst (.int 1))) (.ix (.var 0) (.cst (.int 1)))) (.bin .mul (.cst (.int 69621)) (.ix (.var 0) (.cst (.int 1))))) (.cst (.int 11))) (.cst (.int 2147483629)))) (.cons (.set (.nm 2) (.bin .mod (.bin .add (.bin .mul (.var 2) (.var 2)) (.bin .mul (.cst (.int 40014)) (.var 2))) (.cst (.int 2147483587)))) (.cons (.ret (.bin .mod (.bin .fdiv (.var 2) (.cst (.int 16))) (.var 1))) .nil))))))⟩
def f__law_pick : Fn := ⟨2, 2, (.cons (.ret (.ix (.var 1) (.call "_law_draw" (.cons (.var 0) (.cons (.blt .len (.cons (.var 1) .nil)) .nil))))) .nil)⟩
def f__law_same : Fn := ⟨2, 2, (.cons (.ret (.cmp .eq (.blt .repr (.cons (.var 0) .nil)) (.blt .repr (.cons (.var 1) .nil)))) .nil)⟩
def f__law_way : Fn := ⟨2, 4, (.cons (.par [2, 3] (.cons (.bin .sub (.call "_law_draw" (.cons (.var 0) (.cons (.cst (.int 22)) .nil))) (.cst (.int 6))) (.cons (.bin .sub (.call "_law_draw" (.cons (.var 0) (.cons (.cst (.int 22)) .nil))) (.cst (.int 6))) .nil))) (.cons (.ret (.tup (.cons (.var 1) (.cons (.var 2) (.cons (.var 3) (.cons (.ix (.lst (.cons (.cst (.int 0)) (.cons (.cst (.int 1)) (.cons (.neg (.cst (.int 1))) (.cons (.cst (.int 2)) (.cons (.cst (.int 0)) .nil)))))) (.call "_law_draw" (.cons (.var 0) (.cons (.cst (.int 5)) .nil)))) (.cons (.ix (.lst (.cons (.cst (.int 0)) (.cons (.neg (.cst (.int 1))) (.cons (.cst (.int 1)) (.cons (.neg (.cst (.int 3))) (.cons (.cst (.int 0)) .nil)))))) (.call "_law_draw" (.cons (.var 0) (.cons (.cst (.int 5)) .nil)))) .nil))))))) .nil))⟩
def f__law_house_l1 : Fb.Ss := (.cons (.app 3 (.call "_law_way" (.cons (.var 0) (.cons (.var 2) .nil)))) (.cons (.set (.nm 2) (.bin .add (.bin .add (.var 2) (.cst (.int 1))) (.call "_law_draw" (.cons (.var 0) (.cons (.cst (.int 8)) .nil))))) .nil))
def f__law_house : Fn := ⟨1, 4, (.cons (.parO [2, 3] (.cons (.ix (.lst (.cons (.cst (.int 0)) (.cons (.cst (.int 0)) (.cons (.cst (.int 0)) (.cons (.cst (.int 4)) .nil))))) (.call "_law_draw" (.cons (.var 0) (.cons (.cst (.int 4)) .nil)))) (.cons (.lst .nil) .nil)) [false, true]) (.cons (.for_ (.rng1 (.bin .add (.cst (.int 1)) (.call "_law_pick" (.cons (.var 0) (.cons (.lst (.cons (.cst (.int 0)) (.cons (.cst (.int 0)) (.cons (.cst (.int 1)) (.cons (.cst (.int 2)) .nil))))) .nil))))) (.nm 1) f__law_house_l1) (.cons (.frz 3) (.cons (.ret (.blt .tuple (.cons (.var 3) .nil))) .nil))))⟩
def f__law_edge_way : Fn := ⟨1, 4, (.cons (.set (.nm 1) (.ix (.lst (.cons (.neg (.cst (.int 50))) (.cons (.cst (.int 100)) (.cons (.cst (.int 0)) (.cons (.bin .sub (.call "_law_draw" (.cons (.var 0) (.cons (.cst (.int 151)) .nil))) (.cst (.int 50))) .nil))))) (.call "_law_draw" (.cons (.var 0) (.cons (.cst (.int 4)) .nil))))) (.cons (.set (.nm 2) (.ix (.lst (.cons (.neg (.cst (.int 50))) (.cons (.cst (.int 100)) (.cons (.cst (.int 7)) (.cons (.bin .sub (.call "_law_draw" (.cons (.var 0) (.cons (.cst (.int 151)) .nil))) (.cst (.int 50))) .nil))))) (.call "_law_draw" (.cons (.var 0) (.cons (.cst (.int 4)) .nil))))) (.cons (.set (.nm 3) (.ix (.lst (.cons (.cst (.int 0)) (.cons (.cst (.int 255)) (.cons (.cst (.int 15)) (.cons (.cst (.int 16)) (.cons (.call "_law_draw" (.cons (.var 0) (.cons (.cst (.int 256)) .nil))) .nil)))))) (.call "_law_draw" (.cons (.var 0) (.cons (.cst (.int 5)) .nil))))) (.cons (.ret (.tup (.cons (.var 3) (.cons (.var 1) (.cons (.var 2) (.cons (.ix (.lst (.cons (.neg (.cst (.int 7))) (.cons (.cst (.int 7)) (.cons (.cst (.int 0)) (.cons (.bin .sub (.call "_law_draw" (.cons (.var 0) (.cons (.cst (.int 15)) .nil))) (.cst (.int 7))) .nil))))) (.call "_law_draw" (.cons (.var 0) (.cons (.cst (.int 4)) .nil)))) (.cons (.bin .sub (.call "_law_draw" (.cons (.var 0) (.cons (.cst (.int 15)) .nil))) (.cst (.int 7))) .nil))))))) .nil))))⟩
def f__law_walked_c1 : Fb.E := (.var 9)
def f__law_walked_d1 : Fb.E := (.cmp .le (.ix (.var 9) (.cst (.int 0))) (.var 1))
def f__law_walked_l1 : Fb.Ss := (.cons (.par [5, 6] (.cons (.bin .add (.var 5) (.var 7)) (.cons (.bin .add (.var 6) (.var 8)) .nil))) .nil)
def f__law_walked : Fn := ⟨2, 10, (.cons (.set (.nm 2) (.lc [9] (.gen (.seq (.var 0)) (.nm 9) (.yes f__law_walked_d1) (.fin f__law_walked_c1)))) (.cons (.ifs (.cmp .eq (.var 2) (.lst .nil)) (.cons (.ret (.cst (.none))) .nil) .nil) (.cons (.set (.tp (.cons (.nm 4) (.cons (.nm 5) (.cons (.nm 6) (.cons (.nm 7) (.cons (.nm 8) .nil)))))) (.ix (.var 2) (.neg (.cst (.int 1))))) (.cons (.for_ (.rng1 (.bin .sub (.var 1) (.var 4))) (.nm 3) f__law_walked_l1) (.cons (.ret (.tup (.cons (.var 5) (.cons (.var 6) .nil)))) .nil)))))⟩
def f__law_right_l1 : Fb.Ss := (.cons (.set (.nm 6) (.bin .add (.var 6) (.lst (.cons (.ix (.var 7) (.cst (.int 0))) (.cons (.bin .add (.ix (.var 7) (.cst (.int 0))) (.cst (.int 1))) (.cons (.blt .max2 (.cons (.cst (.int 0)) (.cons (.bin .sub (.ix (.var 7) (.cst (.int 0))) (.cst (.int 1))) .nil))) .nil)))))) .nil)
def f__law_right_l2 : Fb.Ss := (.cons (.set (.nm 9) (.call "_law_walked" (.cons (.var 2) (.cons (.var 8) .nil)))) (.cons (.ifs (.not (.call "_law_same" (.cons (.lst (.cons (.call "place_at" (.cons (.var 2) (.cons (.var 8) .nil))) (.cons (.call "place_at" (.cons (.var 2) (.cons (.var 8) .nil))) .nil))) (.cons (.lst (.cons (.var 9) (.cons (.var 9) .nil))) .nil)))) (.cons (.ret (.cst (.bool false))) .nil) .nil) .nil))
def f__law_right_l3 : Fb.Ss := (.cons (.set (.nm 5) (.blt .repr (.cons (.var 2) .nil))) (.cons (.set (.nm 6) (.lst (.cons (.cst (.int 0)) (.cons (.cst (.int 1)) (.cons (.cst (.int 300)) (.cons (.cst (.int 299)) (.cons (.call "_law_draw" (.cons (.var 0) (.cons (.cst (.int 301)) .nil))) .nil))))))) (.cons (.for_ (.seq (.var 2)) (.nm 7) f__law_right_l1) (.cons (.for_ (.seq (.var 6)) (.nm 8) f__law_right_l2) (.cons (.ifs (.cmp .ne (.blt .repr (.cons (.var 2) .nil)) (.var 5)) (.cons (.ret (.cst (.bool false))) .nil) .nil) .nil)))))
def f__law_right : Fn := ⟨1, 10, (.cons (.par [3, 4] (.cons (.call "_law_edge_way" (.cons (.var 0) .nil)) (.cons (.call "_law_edge_way" (.cons (.var 0) .nil)) .nil))) (.cons (.set (.nm 1) (.bin .add (.lst (.cons (.call "_law_house" (.cons (.var 0) .nil)) (.cons (.tup (.cons (.var 3) .nil)) .nil))) (.bin .mul (.lst (.cons (.tup (.cons (.var 3) (.cons (.var 4) .nil))) .nil)) (.blt .int (.cons (.cmp .lt (.ix (.var 3) (.cst (.int 0))) (.ix (.var 4) (.cst (.int 0)))) .nil))))) (.cons (.for_ (.seq (.var 1)) (.nm 2) f__law_right_l3) (.cons (.ret (.cst (.bool true))) .nil))))⟩
def f_law_l1 : Fb.Ss := (.cons (.ifs (.not (.call "_law_right" (.cons (.var 2) .nil))) (.cons (.ret (.cst (.bool false))) .nil) .nil) .nil)
def f_law_l2 : Fb.Ss := (.cons (.set (.nm 2) (.call "_law_pen" (.cons (.call "_law_cell_at" (.cons (.var 0) (.cons (.var 1) .nil))) .nil))) (.cons (.for_ (.rng1 (.cst (.int 2))) (.nm 3) f_law_l1) .nil))
def f_law : Fn := ⟨1, 4, (.cons (.for_ (.rng1 (.blt .max2 (.cons (.cst (.int 1)) (.cons (.blt .min2 (.cons (.blt .len (.cons (.var 0) .nil)) (.cons (.cst (.int 5)) .nil))) .nil)))) (.nm 1) f_law_l2) (.cons (.ret (.cst (.bool true))) .nil))⟩
def e_is_whole : Ent := ⟨"is_whole", ⟨("is_whole", none), "is_whole", "is_whole", defArgs (top 5), defBody (top 5), defScope (top 5), [], []⟩, ["thing"], ["thing"], f_is_whole⟩
def e_is_within : Ent := ⟨"is_within", ⟨("is_within", none), "is_within", "is_within", defArgs (top 6), defBody (top 6), defScope (top 6), [], []⟩, ["thing", "least", "most"], ["thing", "least", "most"], f_is_within⟩
def e_rises : Ent := ⟨"rises", ⟨("rises", none), "rises", "rises", defArgs (top 7), defBody (top 7), defScope (top 7), [], []⟩, ["row", "one", "later"], ["row"], f_rises⟩
def e_is_way : Ent := ⟨"is_way", ⟨("is_way", none), "is_way", "is_way", defArgs (top 12), defBody (top 12), defScope (top 12), [], []⟩, ["thing", "one", "least", "most"], ["thing"], f_is_way⟩
def e_is_house : Ent := ⟨"is_house", ⟨("is_house", none), "is_house", "is_house", defArgs (top 13), defBody (top 13), defScope (top 13), [], []⟩, ["thing", "way", "one"], ["thing"], f_is_house⟩
def e_need_house : Ent := ⟨"need_house", ⟨("need_house", none), "need_house", "need_house", defArgs (top 14), defBody (top 14), defScope (top 14), [], []⟩, ["thing"], ["thing"], f_need_house⟩
def e_need_tick : Ent := ⟨"need_tick", ⟨("need_tick", none), "need_tick", "need_tick", defArgs (top 15), defBody (top 15), defScope (top 15), [], []⟩, ["thing"], ["thing"], f_need_tick⟩
def e_place_by : Ent := ⟨"place_by", ⟨("place_by", none), "place_by", "place_by", defArgs (top 16), defBody (top 16), defScope (top 16), [], []⟩, ["house", "tick", "found", "begin", "x", "y", "step_x", "step_y"], ["house", "tick"], f_place_by⟩
def e_place_at : Ent := ⟨"place_at", ⟨("place_at", none), "place_at", "place_at", defArgs (top 17), defBody (top 17), defScope (top 17), [], []⟩, ["house", "tick"], ["house", "tick"], f_place_at⟩
def e__law_cell_at : Ent := ⟨"_law_cell_at", ⟨("_law_cell_at", none), "_law_cell_at", "_law_cell_at", defArgs (top 19), defBody (top 19), defScope (top 19), [], []⟩, ["_law_script", "_law_k"], ["_law_script", "_law_k"], f__law_cell_at⟩
def e__law_pen : Ent := ⟨"_law_pen", ⟨("_law_pen", none), "_law_pen", "_law_pen", defArgs (top 20), defBody (top 20), defScope (top 20), [], []⟩, ["_law_cell"], ["_law_cell"], f__law_pen⟩
def e__law_draw : Ent := ⟨"_law_draw", ⟨("_law_draw", none), "_law_draw", "_law_draw", defArgs (top 21), defBody (top 21), defScope (top 21), [], []⟩, ["_law_pen_here", "_law_many", "_law_mixed", "_law_found"], ["_law_pen_here", "_law_many"], f__law_draw⟩
def e__law_pick : Ent := ⟨"_law_pick", ⟨("_law_pick", none), "_law_pick", "_law_pick", defArgs (top 22), defBody (top 22), defScope (top 22), [], []⟩, ["_law_pen_here", "_law_some"], ["_law_pen_here", "_law_some"], f__law_pick⟩
def e__law_same : Ent := ⟨"_law_same", ⟨("_law_same", none), "_law_same", "_law_same", defArgs (top 23), defBody (top 23), defScope (top 23), [], []⟩, ["_law_found", "_law_due"], ["_law_found", "_law_due"], f__law_same⟩
def e__law_way : Ent := ⟨"_law_way", ⟨("_law_way", none), "_law_way", "_law_way", defArgs (top 24), defBody (top 24), defScope (top 24), [], []⟩, ["_law_pen_here", "_law_begin", "_law_x", "_law_y"], ["_law_pen_here", "_law_begin"], f__law_way⟩
def e__law_house : Ent := ⟨"_law_house", ⟨("_law_house", none), "_law_house", "_law_house", defArgs (top 25), defBody (top 25), defScope (top 25), [], []⟩, ["_law_pen_here", "_law_lap", "_law_begin", "_law_found"], ["_law_pen_here"], f__law_house⟩
def e__law_edge_way : Ent := ⟨"_law_edge_way", ⟨("_law_edge_way", none), "_law_edge_way", "_law_edge_way", defArgs (top 26), defBody (top 26), defScope (top 26), [], []⟩, ["_law_pen_here", "_law_x", "_law_y", "_law_begin"], ["_law_pen_here"], f__law_edge_way⟩
def e__law_walked : Ent := ⟨"_law_walked", ⟨("_law_walked", none), "_law_walked", "_law_walked", defArgs (top 27), defBody (top 27), defScope (top 27), [], []⟩, ["_law_house_here", "_law_tick", "_law_begun", "_law_lap", "_law_begin", "_law_x", "_law_y", "_law_right_here", "_law_up", "_law_way_here"], ["_law_house_here", "_law_tick"], f__law_walked⟩
def e__law_right : Ent := ⟨"_law_right", ⟨("_law_right", none), "_law_right", "_law_right", defArgs (top 28), defBody (top 28), defScope (top 28), [], []⟩, ["_law_pen_here", "_law_houses", "_law_house_here", "_law_one", "_law_other", "_law_ahead", "_law_ticks", "_law_way_here", "_law_tick", "_law_due"], ["_law_pen_here"], f__law_right⟩
def e_law : Ent := ⟨"law", ⟨("law", none), "law", "law", defArgs (top 29), defBody (top 29), defScope (top 29), [], []⟩, ["_law_script", "_law_k", "_law_pen_here", "_law_turn"], ["_law_script"], f_law⟩
def tbl : Tbl := ⟨[e_is_whole, e_is_within, e_rises, e_is_way, e_is_house, e_need_house, e_need_tick, e_place_by, e_place_at, e__law_cell_at, e__law_pen, e__law_draw, e__law_pick, e__law_same, e__law_way, e__law_house, e__law_edge_way, e__law_walked, e__law_right, e_law], [("BOUNDS", .tuple [.tuple [.int 0, .int 255], .tuple [.int (-50), .int 100], .tuple [.int (-50), .int 100], .tuple [.int (-7), .int 7], .tuple [.int (-7), .int 7]]), ("MOST_WAYS", .int 3), ("MOST_TICK", .int 300)], ["BeatError", "NoHouse", "NoTick"]⟩
theorem b_is_whole : e_is_whole.Binds := fun _ _ _ _ _ _ us hl => match us, hl with | [_], _ => rfl
theorem b_is_within : e_is_within.Binds := fun _ _ _ _ _ _ us hl => match us, hl with | [_, _, _], _ => rfl
theorem b_rises : e_rises.Binds := fun _ _ _ _ _ _ us hl => match us, hl with | [_], _ => rfl
theorem b_is_way : e_is_way.Binds := fun _ _ _ _ _ _ us hl => match us, hl with | [_], _ => rfl
theorem b_is_house : e_is_house.Binds := fun _ _ _ _ _ _ us hl => match us, hl with | [_], _ => rfl
theorem b_need_house : e_need_house.Binds := fun _ _ _ _ _ _ us hl => match us, hl with | [_], _ => rfl
theorem b_need_tick : e_need_tick.Binds := fun _ _ _ _ _ _ us hl => match us, hl with | [_], _ => rfl
theorem b_place_by : e_place_by.Binds := fun _ _ _ _ _ _ us hl => match us, hl with | [_, _], _ => rfl
theorem b_place_at : e_place_at.Binds := fun _ _ _ _ _ _ us hl => match us, hl with | [_, _], _ => rfl
theorem b__law_cell_at : e__law_cell_at.Binds := fun _ _ _ _ _ _ us hl => match us, hl with | [_, _], _ => rfl
theorem b__law_pen : e__law_pen.Binds := fun _ _ _ _ _ _ us hl => match us, hl with | [_], _ => rfl
theorem b__law_draw : e__law_draw.Binds := fun _ _ _ _ _ _ us hl => match us, hl with | [_, _], _ => rfl
theorem b__law_pick : e__law_pick.Binds := fun _ _ _ _ _ _ us hl => match us, hl with | [_, _], _ => rfl
theorem b__law_same : e__law_same.Binds := fun _ _ _ _ _ _ us hl => match us, hl with | [_, _], _ => rfl
theorem b__law_way : e__law_way.Binds := fun _ _ _ _ _ _ us hl => match us, hl with | [_, _], _ => rfl
theorem b__law_house : e__law_house.Binds := fun _ _ _ _ _ _ us hl => match us, hl with | [_], _ => rfl
theorem b__law_edge_way : e__law_edge_way.Binds := fun _ _ _ _ _ _ us hl => match us, hl with | [_], _ => rfl
theorem b__law_walked : e__law_walked.Binds := fun _ _ _ _ _ _ us hl => match us, hl with | [_, _], _ => rfl
theorem b__law_right : e__law_right.Binds := fun _ _ _ _ _ _ us hl => match us, hl with | [_], _ => rfl
theorem b_law : e_law.Binds := fun _ _ _ _ _ _ us hl => match us, hl with | [_], _ => rfl
theorem q_is_whole : tbl.find "is_whole" = some e_is_whole := by rfl
theorem q_is_within : tbl.find "is_within" = some e_is_within := by rfl
theorem q_rises : tbl.find "rises" = some e_rises := by rfl
theorem q_is_way : tbl.find "is_way" = some e_is_way := by rfl
theorem q_is_house : tbl.find "is_house" = some e_is_house := by rfl
theorem q_need_house : tbl.find "need_house" = some e_need_house := by rfl
theorem q_need_tick : tbl.find "need_tick" = some e_need_tick := by rfl
theorem q_place_by : tbl.find "place_by" = some e_place_by := by rfl
theorem q_place_at : tbl.find "place_at" = some e_place_at := by rfl
theorem q__law_cell_at : tbl.find "_law_cell_at" = some e__law_cell_at := by rfl
theorem q__law_pen : tbl.find "_law_pen" = some e__law_pen := by rfl
theorem q__law_draw : tbl.find "_law_draw" = some e__law_draw := by rfl
theorem q__law_pick : tbl.find "_law_pick" = some e__law_pick := by rfl
theorem q__law_same : tbl.find "_law_same" = some e__law_same := by rfl
theorem q__law_way : tbl.find "_law_way" = some e__law_way := by rfl
theorem q__law_house : tbl.find "_law_house" = some e__law_house := by rfl
theorem q__law_edge_way : tbl.find "_law_edge_way" = some e__law_edge_way := by rfl
theorem q__law_walked : tbl.find "_law_walked" = some e__law_walked := by rfl
theorem q__law_right : tbl.find "_law_right" = some e__law_right := by rfl
theorem q_law : tbl.find "law" = some e_law := by rfl
theorem w_is_whole (n : Nat) (ds : List D) : tbl.run (n + 1) "is_whole" ds = f_is_whole.run (tbl.run n) tbl.cons ds := run_eq q_is_whole n ds
theorem w_is_within (n : Nat) (ds : List D) : tbl.run (n + 1) "is_within" ds = f_is_within.run (tbl.run n) tbl.cons ds := run_eq q_is_within n ds
theorem w_rises (n : Nat) (ds : List D) : tbl.run (n + 1) "rises" ds = f_rises.run (tbl.run n) tbl.cons ds := run_eq q_rises n ds
theorem w_is_way (n : Nat) (ds : List D) : tbl.run (n + 1) "is_way" ds = f_is_way.run (tbl.run n) tbl.cons ds := run_eq q_is_way n ds
theorem w_is_house (n : Nat) (ds : List D) : tbl.run (n + 1) "is_house" ds = f_is_house.run (tbl.run n) tbl.cons ds := run_eq q_is_house n ds
theorem w_need_house (n : Nat) (ds : List D) : tbl.run (n + 1) "need_house" ds = f_need_house.run (tbl.run n) tbl.cons ds := run_eq q_need_house n ds
theorem w_need_tick (n : Nat) (ds : List D) : tbl.run (n + 1) "need_tick" ds = f_need_tick.run (tbl.run n) tbl.cons ds := run_eq q_need_tick n ds
theorem w_place_by (n : Nat) (ds : List D) : tbl.run (n + 1) "place_by" ds = f_place_by.run (tbl.run n) tbl.cons ds := run_eq q_place_by n ds
theorem w_place_at (n : Nat) (ds : List D) : tbl.run (n + 1) "place_at" ds = f_place_at.run (tbl.run n) tbl.cons ds := run_eq q_place_at n ds
theorem w__law_cell_at (n : Nat) (ds : List D) : tbl.run (n + 1) "_law_cell_at" ds = f__law_cell_at.run (tbl.run n) tbl.cons ds := run_eq q__law_cell_at n ds
theorem w__law_pen (n : Nat) (ds : List D) : tbl.run (n + 1) "_law_pen" ds = f__law_pen.run (tbl.run n) tbl.cons ds := run_eq q__law_pen n ds
theorem w__law_draw (n : Nat) (ds : List D) : tbl.run (n + 1) "_law_draw" ds = f__law_draw.run (tbl.run n) tbl.cons ds := run_eq q__law_draw n ds
theorem w__law_pick (n : Nat) (ds : List D) : tbl.run (n + 1) "_law_pick" ds = f__law_pick.run (tbl.run n) tbl.cons ds := run_eq q__law_pick n ds
theorem w__law_same (n : Nat) (ds : List D) : tbl.run (n + 1) "_law_same" ds = f__law_same.run (tbl.run n) tbl.cons ds := run_eq q__law_same n ds
theorem w__law_way (n : Nat) (ds : List D) : tbl.run (n + 1) "_law_way" ds = f__law_way.run (tbl.run n) tbl.cons ds := run_eq q__law_way n ds
theorem w__law_house (n : Nat) (ds : List D) : tbl.run (n + 1) "_law_house" ds = f__law_house.run (tbl.run n) tbl.cons ds := run_eq q__law_house n ds
theorem w__law_edge_way (n : Nat) (ds : List D) : tbl.run (n + 1) "_law_edge_way" ds = f__law_edge_way.run (tbl.run n) tbl.cons ds := run_eq q__law_edge_way n ds
theorem w__law_walked (n : Nat) (ds : List D) : tbl.run (n + 1) "_law_walked" ds = f__law_walked.run (tbl.run n) tbl.cons ds := run_eq q__law_walked n ds
theorem w__law_right (n : Nat) (ds : List D) : tbl.run (n + 1) "_law_right" ds = f__law_right.run (tbl.run n) tbl.cons ds := run_eq q__law_right n ds
theorem w_law (n : Nat) (ds : List D) : tbl.run (n + 1) "law" ds = f_law.run (tbl.run n) tbl.cons ds := run_eq q_law n ds
theorem ok : tbl.Ok := ⟨by decide +kernel, fun e he => by
  simp only [tbl, List.mem_cons, List.not_mem_nil, or_false] at he
  rcases he with rfl | rfl | rfl | rfl | rfl | rfl | rfl | rfl | rfl | rfl | rfl | rfl | rfl | rfl | rfl | rfl | rfl | rfl | rfl | rfl
  · exact b_is_whole
  · exact b_is_within
  · exact b_rises
  · exact b_is_way
  · exact b_is_house
  · exact b_need_house
  · exact b_need_tick
  · exact b_place_by
  · exact b_place_at
  · exact b__law_cell_at
  · exact b__law_pen
  · exact b__law_draw
  · exact b__law_pick
  · exact b__law_same
  · exact b__law_way
  · exact b__law_house
  · exact b__law_edge_way
  · exact b__law_walked
  · exact b__law_right
  · exact b_law⟩
end Lw

set_option Elab.async false
set_option linter.all false
set_option maxRecDepth 100000
set_option maxHeartbeats 400000
namespace Lw
open PySem Fb
/-! ### draws by a pen -/
def St3 (r : Nat) (st : Sto) : Prop := ∃ a b c : Int, st[r]? = some (.lst [.d (.int a), .d (.int b), .d (.int c)])
theorem r_draw (n r : Nat) (many : Int) (hm : 0 < many) (hm2 : many < 1073741824) (st : Sto) (h : St3 r st) : ∃ (v : Int) (st' : Sto), (tbl.run (n + 1) "_law_draw" [.ref r, .d (.int many)]).at st = .ok (.d (.int v)) st' ∧ St3 r st' ∧ 0 ≤ v ∧ v < many := by
  obtain ⟨a, b, c, h⟩ := h
  have hl := (List.getElem?_eq_some_iff.mp h).1
  rw [w__law_draw]
  have f1 : fits64 48271 = true := by decide
  have f0 : fits64 1009 = true := by decide
  have f2 : fits64 69621 = true := by decide
  have f3 : fits64 40014 = true := by decide
  simp [f__law_draw, Fn.run, startE, S.ev, Ss.ev, E.ev, E.tst, Es.ev, Oe.prt, Oe.ok, It.ev, G.ev, bind_nm, bind_tp, bind_nil, bind_cons, Sl.get, datas, setMany, wipeE, Ty.is, asInt, partOf, fdiv_int, mod_int, ↓for_fold, ↓whi_fold, ↓gen_fold]
  rw [bind_ix h (by rfl)]
  simp
  by_cases ha : 0 < a
  · simp only [ha, if_true, M.bind_bind]
    rw [bind_ix h (by rfl)]
    simp [hm, mod_int]
    rw [bind_ix h (by rfl)]
    simp [hm, hm2, fdiv_int]
    rw [bind_rset h (by rfl)]
    simp
    exact ⟨_, _, ⟨rfl, rfl⟩, ⟨_, _, _, List.getElem?_set_self hl⟩, Int.emod_nonneg _ (by omega), Int.emod_lt_of_pos _ hm⟩
  · simp [ha, Sl.get]
    rw [bind_ix h (by rfl)]
    simp
    rw [bind_rset h (by rfl)]
    simp
    have g1 : (st.set r (.lst [.d (.int a), .d (.int b), .d (.int (c + 1))]))[r]? = some (.lst [.d (.int a), .d (.int b), .d (.int (c + 1))]) := List.getElem?_set_self hl
    rw [bind_ix g1 (by rfl)]
    simp [mul_int, f1]
    rw [bind_ix g1 (by rfl)]
    simp [mul_int, f0, mod_int]
    rw [bind_rset g1 (by rfl)]
    simp
    have b0 := Int.emod_nonneg (b * 48271 + 1009 * (c + 1) + 7) (show (2147483647 : Int) ≠ 0 by decide)
    have b1 := Int.emod_lt_of_pos (b * 48271 + 1009 * (c + 1) + 7) (show (0 : Int) < 2147483647 by decide)
    generalize (b * 48271 + 1009 * (c + 1) + 7) % 2147483647 = b' at b0 b1 ⊢
    have g2 : (st.set r (.lst [.d (.int a), .d (.int b'), .d (.int (c + 1))]))[r]? = some (.lst [.d (.int a), .d (.int b'), .d (.int (c + 1))]) := List.getElem?_set_self hl
    have fb : fits64 b' = true := by
      unfold fits64
      rw [decide_eq_true (by omega), decide_eq_true (by omega)]
      rfl
    rw [bind_ix g2 (by rfl), bind_ix g2 (by rfl)]
    simp [mul_int, fb]
    rw [bind_ix g2 (by rfl)]
    simp [mul_int, fb, f2, mod_int]
    have m0 := Int.emod_nonneg (b' * b' + 69621 * b' + 11) (show (2147483629 : Int) ≠ 0 by decide)
    have m1 := Int.emod_lt_of_pos (b' * b' + 69621 * b' + 11) (show (0 : Int) < 2147483629 by decide)
    generalize (b' * b' + 69621 * b' + 11) % 2147483629 = m at m0 m1 ⊢
    have fm : fits64 m = true := by
      unfold fits64
      rw [decide_eq_true (by omega), decide_eq_true (by omega)]
      rfl
    simp [mul_int, fm, f3, mod_int, fdiv_int, hm]
    exact ⟨_, _, ⟨rfl, rfl⟩, ⟨_, _, _, g2⟩, Int.emod_nonneg _ (by omega), Int.emod_lt_of_pos _ hm⟩
theorem r_cell (n : Nat) (ns : List Int) (k : Nat) : ∃ i : Int, tbl.run (n + 1) "_law_cell_at" [.scr ns, .d (.int k)] = M.pure (.d (.int i)) := by
  rw [w__law_cell_at]
  by_cases h : k < ns.length
  · have h' : (k : Int) < ns.length := by omega
    refine ⟨ns[k], ?_⟩
    have e : L2.atI ns (k : Int) = some ns[k] := by
      simp [L2.atI, L2.ixN, h]
    simp [f__law_cell_at, Fn.run, startE, S.ev, Ss.ev, E.ev, E.tst, Es.ev, Oe.prt, Oe.ok, It.ev, G.ev, bind_nm, bind_tp, bind_nil, bind_cons, Sl.get, datas, setMany, wipeE, Ty.is, asInt, partOf, fdiv_int, mod_int, ↓for_fold, ↓whi_fold, ↓gen_fold, h, e]
  · exact ⟨0, by simp [f__law_cell_at, Fn.run, startE, S.ev, Ss.ev, E.ev, E.tst, Es.ev, Oe.prt, Oe.ok, It.ev, G.ev, bind_nm, bind_tp, bind_nil, bind_cons, Sl.get, datas, setMany, wipeE, Ty.is, asInt, partOf, fdiv_int, mod_int, ↓for_fold, ↓whi_fold, ↓gen_fold, h]⟩
theorem r_pen (n : Nat) (i : Int) (st : Sto) : ∃ st', (tbl.run (n + 1) "_law_pen" [.d (.int i)]).at st = .ok (.ref st.length) st' ∧ St3 st.length st' := by
  rw [w__law_pen]
  simp [f__law_pen, Fn.run, startE, S.ev, Ss.ev, E.ev, E.tst, Es.ev, Oe.prt, Oe.ok, It.ev, G.ev, bind_nm, bind_tp, bind_nil, bind_cons, Sl.get, datas, setMany, wipeE, Ty.is, asInt, partOf, fdiv_int, mod_int, ↓for_fold, ↓whi_fold, ↓gen_fold, pow_int]
  exact ⟨_, rfl, _, _, _, by rw [List.getElem?_append_right (Nat.le_refl _)]; simp; exact ⟨rfl, rfl, rfl⟩⟩
theorem atI_nat {α : Type} {xs : List α} {v : Int} (h0 : 0 ≤ v) (h1 : v < xs.length) : ∃ x, L2.atI xs v = some x ∧ x ∈ xs := by
  have hv : v.toNat < xs.length := by omega
  refine ⟨xs[v.toNat], ?_, List.getElem_mem hv⟩
  unfold L2.atI L2.ixN
  rw [if_pos h0, if_pos h1]
  exact List.getElem?_eq_getElem hv
theorem r_pick (n r : Nat) (xs : List PyData) (h0 : 0 < xs.length) (h1 : xs.length < 1073741824) (st : Sto) (h : St3 r st) : ∃ (p : PyData) (st' : Sto), (tbl.run (n + 2) "_law_pick" [.ref r, .d (.list xs)]).at st = .ok (.d p) st' ∧ St3 r st' ∧ p ∈ xs := by
  obtain ⟨v, s1, h2, i1, v0, v1⟩ := r_draw n r xs.length (by omega) (by omega) st h
  obtain ⟨p, hp, hm⟩ := atI_nat v0 v1
  refine ⟨p, s1, ?_, i1, hm⟩
  rw [w__law_pick]
  simp [f__law_pick, Fn.run, startE, S.ev, Ss.ev, E.ev, E.tst, Es.ev, Oe.prt, Oe.ok, It.ev, G.ev, bind_nm, bind_tp, bind_nil, bind_cons, Sl.get, datas, setMany, wipeE, Ty.is, asInt, partOf, fdiv_int, mod_int, ↓for_fold, ↓whi_fold, ↓gen_fold]
  rw [at_bind h2]
  simp [hp]
theorem r_same (n : Nat) {w d : Nat} {p : PyData} (h : Neat w d p) (hw : w ≤ 1048576) (hd : d ≤ 64) : tbl.run (n + 1) "_law_same" [.d p, .d p] = M.pure (.d (.bool true)) := by
  rw [w__law_same]
  simp [f__law_same, Fn.run, startE, S.ev, Ss.ev, E.ev, E.tst, Es.ev, Oe.prt, Oe.ok, It.ev, G.ev, bind_nm, bind_tp, bind_nil, bind_cons, Sl.get, datas, setMany, wipeE, Ty.is, asInt, partOf, fdiv_int, mod_int, ↓for_fold, ↓whi_fold, ↓gen_fold, h.repr hw hd]
/-! ### ways, houses -/
structure Way where
  b : Int
  x : Int
  y : Int
  p : Int
  q : Int
def Way.enc (w : Way) : PyData := .tuple [.int w.b, .int w.x, .int w.y, .int w.p, .int w.q]
structure Way.Ok (w : Way) : Prop where
  b0 : 0 ≤ w.b
  b1 : w.b ≤ 255
  x0 : -50 ≤ w.x
  x1 : w.x ≤ 100
  y0 : -50 ≤ w.y
  y1 : w.y ≤ 100
  p0 : -7 ≤ w.p
  p1 : w.p ≤ 7
  q0 : -7 ≤ w.q
  q1 : w.q ≤ 7
def Rising : List Way → Prop
  | [] => True
  | [_] => True
  | a :: b :: r => a.b < b.b ∧ Rising (b :: r)
structure House (hs : List Way) : Prop where
  l0 : 1 ≤ hs.length
  l1 : hs.length ≤ 3
  ok : ∀ w ∈ hs, w.Ok
  up : Rising hs
theorem Way.neat {w : Way} (h : w.Ok) : Neat 300 1 w.enc := by
  have := h.b0; have := h.b1; have := h.x0; have := h.x1; have := h.y0; have := h.y1; have := h.p0; have := h.p1; have := h.q0; have := h.q1
  exact (Neat.tuple (Neats.ints (ns := [w.b, w.x, w.y, w.p, w.q]) fun i hi => by simp at hi; omega)).mono (by simp) (Nat.le_refl _)
theorem House.neat {hs : List Way} (h : House hs) : Neat 1000 2 (.tuple (hs.map Way.enc)) := by
  refine (Neat.tuple (Neats.all (w := 300) (d := 1) fun p hp => ?_)).mono ?_ (Nat.le_refl _)
  · obtain ⟨w, hw, rfl⟩ := List.mem_map.mp hp
    exact Way.neat (h.ok w hw)
  · have := h.l1
    rw [List.length_map]
    omega
/-! ### the looks -/
theorem k_B : tbl.cons "BOUNDS" = some (.tuple [.tuple [.int 0, .int 255], .tuple [.int (-50), .int 100], .tuple [.int (-50), .int 100], .tuple [.int (-7), .int 7], .tuple [.int (-7), .int 7]]) := by rfl
theorem k_W : tbl.cons "MOST_WAYS" = some (.int 3) := by rfl
theorem k_T : tbl.cons "MOST_TICK" = some (.int 300) := by rfl
theorem r_is_whole (n : Nat) (i : Int) : tbl.run (n + 1) "is_whole" [.d (.int i)] = M.pure (.d (.bool true)) := by
  rw [w_is_whole]
  simp [f_is_whole, Fn.run, startE, S.ev, Ss.ev, E.ev, E.tst, Es.ev, Oe.prt, Oe.ok, It.ev, G.ev, bind_nm, bind_tp, bind_nil, bind_cons, Sl.get, datas, setMany, wipeE, Ty.is, asInt, partOf, fdiv_int, mod_int, ↓for_fold, ↓whi_fold, ↓gen_fold]
theorem r_is_within (n : Nat) (i lo hi : Int) (h1 : lo ≤ i) (h2 : i ≤ hi) : tbl.run (n + 2) "is_within" [.d (.int i), .d (.int lo), .d (.int hi)] = M.pure (.d (.bool true)) := by
  rw [w_is_within]
  simp [f_is_within, Fn.run, startE, S.ev, Ss.ev, E.ev, E.tst, Es.ev, Oe.prt, Oe.ok, It.ev, G.ev, bind_nm, bind_tp, bind_nil, bind_cons, Sl.get, datas, setMany, wipeE, Ty.is, asInt, partOf, fdiv_int, mod_int, ↓for_fold, ↓whi_fold, ↓gen_fold, r_is_whole, h1, h2]
theorem r_is_way (n : Nat) {w : Way} (h : w.Ok) : tbl.run (n + 3) "is_way" [.d w.enc] = M.pure (.d (.bool true)) := by
  rw [w_is_way]
  simp [f_is_way, Fn.run, startE, S.ev, Ss.ev, E.ev, E.tst, Es.ev, Oe.prt, Oe.ok, It.ev, G.ev, bind_nm, bind_tp, bind_nil, bind_cons, Sl.get, datas, setMany, wipeE, Ty.is, asInt, partOf, fdiv_int, mod_int, ↓for_fold, ↓whi_fold, ↓gen_fold, k_B, Way.enc, zipL]
  rw [genB_pure (g := fun _ => .bool true) (fun x hx => ?_)]
  · simp [boolsOf, fits_small]
  · have := h.b0; have := h.b1; have := h.x0; have := h.x1; have := h.y0; have := h.y1; have := h.p0; have := h.p1; have := h.q0; have := h.q1
    simp at hx
    rcases hx with rfl | rfl | rfl | rfl | rfl
    all_goals
      refine ⟨_, rfl, ?_⟩
      simp [f_is_way_c1, Fn.run, startE, S.ev, Ss.ev, E.ev, E.tst, Es.ev, Oe.prt, Oe.ok, It.ev, G.ev, bind_nm, bind_tp, bind_nil, bind_cons, Sl.get, datas, setMany, wipeE, Ty.is, asInt, partOf, fdiv_int, mod_int, ↓for_fold, ↓whi_fold, ↓gen_fold]
      exact r_is_within n _ _ _ (by assumption) (by assumption)
theorem rise_pairs : ∀ {hs : List Way} {x : D}, hs.length ≤ 3 → Rising hs → x ∈ zipL (hs.map fun w => .int w.b) (((hs.map fun w => PyData.int w.b).drop (min 1 hs.length)).take (hs.length - min 1 hs.length)) → ∃ a b : Int, x = .d (.tuple [.int a, .int b]) ∧ a < b
  | [], _, _, _, hx => by simp [zipL] at hx
  | [a], _, _, _, hx => by simp [zipL] at hx
  | [a, b], _, _, h, hx => by
    simp [zipL] at hx
    exact ⟨_, _, hx, h.1⟩
  | [a, b, c], _, _, h, hx => by
    simp [zipL] at hx
    rcases hx with e | e
    · exact ⟨_, _, e, h.1⟩
    · exact ⟨_, _, e, h.2.1⟩
  | _ :: _ :: _ :: _ :: _, _, h, _, _ => by simp at h
theorem zipL_few : ∀ (xs ys : List PyData), (zipL xs ys).length ≤ xs.length
  | [], _ => by simp [zipL]
  | _ :: _, [] => by simp [zipL]
  | x :: xs, y :: ys => by simp [zipL, zipL_few xs ys]
theorem r_rises (n : Nat) {hs : List Way} (h1 : hs.length ≤ 3) (h2 : Rising hs) : tbl.run (n + 1) "rises" [.d (.list (hs.map fun w => .int w.b))] = M.pure (.d (.bool true)) := by
  rw [w_rises]
  simp [f_rises, Fn.run, startE, S.ev, Ss.ev, E.ev, E.tst, Es.ev, Oe.prt, Oe.ok, It.ev, G.ev, bind_nm, bind_tp, bind_nil, bind_cons, Sl.get, datas, setMany, wipeE, Ty.is, asInt, partOf, fdiv_int, mod_int, ↓for_fold, ↓whi_fold, ↓gen_fold, cutP, HT.sIx]
  rw [genB_pure (g := fun _ => .bool true) (fun x hx => ?_)]
  · have := zipL_few (hs.map fun w => PyData.int w.b) (((hs.map fun w => PyData.int w.b).drop (min 1 hs.length)).take (hs.length - min 1 hs.length))
    rw [List.length_map] at this
    simp only [fits_small (Nat.le_trans this (by omega)), all_true, List.length_map, List.map_map, if_true, M.pure_bind, M.calm_pure, runD_d, all_lst, Option.map_some, M.lift_some, List.all_map]
    exact congrArg (fun z => M.pure (D.d (PyData.bool z))) all_tt
  · obtain ⟨a, b, rfl, hab⟩ := rise_pairs h1 h2 hx
    refine ⟨_, rfl, ?_⟩
    simp [f_rises_c1, Fn.run, startE, S.ev, Ss.ev, E.ev, E.tst, Es.ev, Oe.prt, Oe.ok, It.ev, G.ev, bind_nm, bind_tp, bind_nil, bind_cons, Sl.get, datas, setMany, wipeE, Ty.is, asInt, partOf, fdiv_int, mod_int, ↓for_fold, ↓whi_fold, ↓gen_fold, hab]
theorem r_is_house (n : Nat) {hs : List Way} (h : House hs) : tbl.run (n + 4) "is_house" [.d (.tuple (hs.map Way.enc))] = M.pure (.d (.bool true)) := by
  have l0 : (1 : Int) ≤ hs.length := by have := h.l0; omega
  have l1 : (hs.length : Int) ≤ 3 := by have := h.l1; omega
  have g1 : genB (tbl.run (n + 3)) tbl.cons (.nm 2) .no (.fin f_is_house_c1) [.v (.d (.tuple (hs.map Way.enc))), .un, .un] (hs.map (D.d ∘ Way.enc)) = M.pure ((hs.map (D.d ∘ Way.enc)).map fun _ => .bool true) :=
    genB_pure fun x hx => by
      obtain ⟨w, hw, rfl⟩ := List.mem_map.mp hx
      refine ⟨_, rfl, ?_⟩
      simp [f_is_house_c1, Fn.run, startE, S.ev, Ss.ev, E.ev, E.tst, Es.ev, Oe.prt, Oe.ok, It.ev, G.ev, bind_nm, bind_tp, bind_nil, bind_cons, Sl.get, datas, setMany, wipeE, Ty.is, asInt, partOf, fdiv_int, mod_int, ↓for_fold, ↓whi_fold, ↓gen_fold]
      exact r_is_way n (h.ok w hw)
  have g2 : genB (tbl.run (n + 3)) tbl.cons (.nm 1) .no (.fin f_is_house_c2) [.v (.d (.tuple (hs.map Way.enc))), .un, .un] (hs.map (D.d ∘ Way.enc)) = M.pure (hs.map fun w => .int w.b) := by
    have := genB_pure (Φ := tbl.run (n + 3)) (C := tbl.cons) (t := .nm 1) (e := f_is_house_c2) (env := [.v (.d (.tuple (hs.map Way.enc))), .un, .un]) (xs := hs.map (D.d ∘ Way.enc)) (g := fun x => match x with
      | .d (.tuple (p :: _)) => p
      | _ => .none) fun x hx => by
        obtain ⟨w, hw, rfl⟩ := List.mem_map.mp hx
        refine ⟨_, rfl, ?_⟩
        simp [f_is_house_c2, Fn.run, startE, S.ev, Ss.ev, E.ev, E.tst, Es.ev, Oe.prt, Oe.ok, It.ev, G.ev, bind_nm, bind_tp, bind_nil, bind_cons, Sl.get, datas, setMany, wipeE, Ty.is, asInt, partOf, fdiv_int, mod_int, ↓for_fold, ↓whi_fold, ↓gen_fold, Way.enc, L2.atI, L2.ixN]
    rw [this, List.map_map]
    rfl
  have f1 : fitsLine hs.length = true := fits_small (by have := h.l1; omega)
  have hr := r_rises (n + 2) h.l1 h.up
  rw [w_is_house]
  simp [f_is_house, Fn.run, startE, S.ev, Ss.ev, E.ev, E.tst, Es.ev, Oe.prt, Oe.ok, It.ev, G.ev, bind_nm, bind_tp, bind_nil, bind_cons, Sl.get, datas, setMany, wipeE, Ty.is, asInt, partOf, fdiv_int, mod_int, ↓for_fold, ↓whi_fold, ↓gen_fold, k_W, l0, l1]
  rw [g1]
  simp [f1, Function.comp_def, all_true]
  simp only [Function.comp_def] at g2
  rw [g2]
  simp [f1]
  exact hr
theorem r_need_house (n : Nat) {hs : List Way} (h : House hs) : tbl.run (n + 5) "need_house" [.d (.tuple (hs.map Way.enc))] = M.pure (.d .none) := by
  rw [w_need_house]
  simp [f_need_house, Fn.run, startE, S.ev, Ss.ev, E.ev, E.tst, Es.ev, Oe.prt, Oe.ok, It.ev, G.ev, bind_nm, bind_tp, bind_nil, bind_cons, Sl.get, datas, setMany, wipeE, Ty.is, asInt, partOf, fdiv_int, mod_int, ↓for_fold, ↓whi_fold, ↓gen_fold, r_is_house n h]
theorem r_need_tick (n : Nat) {t : Int} (h0 : 0 ≤ t) (h1 : t ≤ 300) : tbl.run (n + 3) "need_tick" [.d (.int t)] = M.pure (.d .none) := by
  rw [w_need_tick]
  simp [f_need_tick, Fn.run, startE, S.ev, Ss.ev, E.ev, E.tst, Es.ev, Oe.prt, Oe.ok, It.ev, G.ev, bind_nm, bind_tp, bind_nil, bind_cons, Sl.get, datas, setMany, wipeE, Ty.is, asInt, partOf, fdiv_int, mod_int, ↓for_fold, ↓whi_fold, ↓gen_fold, k_T, r_is_within n t 0 300 h0 h1]
def spot (t : Int) (w : Way) : PyData := .tuple [.int (w.x + (t - w.b) * w.p), .int (w.y + (t - w.b) * w.q)]
def found (t : Int) (f : PyData) (w : Way) : PyData := if w.b ≤ t then spot t w else f
theorem loop_place (n : Nat) {t : Int} (h0 : 0 ≤ t) (h1 : t ≤ 300) : ∀ (hs : List Way), (∀ w ∈ hs, w.Ok) → ∀ (f : PyData) (a s3 s4 s5 s6 s7 : Sl), ∃ s3' s4' s5' s6' s7',
    forB (tbl.run n) tbl.cons (.tp (.cons (.nm 3) (.cons (.nm 4) (.cons (.nm 5) (.cons (.nm 6) (.cons (.nm 7) .nil)))))) f_place_by_l1 (hs.map (D.d ∘ Way.enc)) [a, .v (.d (.int t)), .v (.d f), s3, s4, s5, s6, s7]
      = M.pure (.nx [a, .v (.d (.int t)), .v (.d (hs.foldl (found t) f)), s3', s4', s5', s6', s7'])
  | [], _, f, a, s3, s4, s5, s6, s7 => ⟨_, _, _, _, _, rfl⟩
  | w :: hs, h, f, a, s3, s4, s5, s6, s7 => by
    obtain ⟨s3', s4', s5', s6', s7', e⟩ := loop_place n h0 h1 hs (fun w hw => h w (List.mem_cons_of_mem _ hw)) (found t f w) a (.v (.d (.int w.b))) (.v (.d (.int w.x))) (.v (.d (.int w.y))) (.v (.d (.int w.p))) (.v (.d (.int w.q)))
    refine ⟨s3', s4', s5', s6', s7', ?_⟩
    have ok := h w List.mem_cons_self
    have := ok.b0
    have := ok.b1
    have ff : fits64 (t - w.b) = true := fits64_of (by omega) (by omega)
    have hb : f_place_by_l1.ev (tbl.run n) tbl.cons [a, .v (.d (.int t)), .v (.d f), .v (.d (.int w.b)), .v (.d (.int w.x)), .v (.d (.int w.y)), .v (.d (.int w.p)), .v (.d (.int w.q))] = M.pure (.nx [a, .v (.d (.int t)), .v (.d (found t f w)), .v (.d (.int w.b)), .v (.d (.int w.x)), .v (.d (.int w.y)), .v (.d (.int w.p)), .v (.d (.int w.q))]) := by
      by_cases hw : w.b ≤ t
      · simp [f_place_by_l1, Fn.run, startE, S.ev, Ss.ev, E.ev, E.tst, Es.ev, Oe.prt, Oe.ok, It.ev, G.ev, bind_nm, bind_tp, bind_nil, bind_cons, Sl.get, datas, setMany, wipeE, Ty.is, asInt, partOf, fdiv_int, mod_int, ↓for_fold, ↓whi_fold, ↓gen_fold, mul_int, ff, hw, found, spot]
      · simp [f_place_by_l1, Fn.run, startE, S.ev, Ss.ev, E.ev, E.tst, Es.ev, Oe.prt, Oe.ok, It.ev, G.ev, bind_nm, bind_tp, bind_nil, bind_cons, Sl.get, datas, setMany, wipeE, Ty.is, asInt, partOf, fdiv_int, mod_int, ↓for_fold, ↓whi_fold, ↓gen_fold, mul_int, ff, hw, found]
    rw [List.map_cons, forB_cons]
    have ht : (T.tp (.cons (.nm 3) (.cons (.nm 4) (.cons (.nm 5) (.cons (.nm 6) (.cons (.nm 7) .nil)))))).bind ((D.d ∘ Way.enc) w) [a, .v (.d (.int t)), .v (.d f), s3, s4, s5, s6, s7] = some [a, .v (.d (.int t)), .v (.d f), .v (.d (.int w.b)), .v (.d (.int w.x)), .v (.d (.int w.y)), .v (.d (.int w.p)), .v (.d (.int w.q))] := rfl
    rw [ht, M.lift_some, M.pure_bind, hb, M.pure_bind]
    exact e
def place (t : Int) (hs : List Way) : PyData := hs.foldl (found t) .none
theorem r_place_by (n : Nat) {hs : List Way} (h : House hs) {t : Int} (h0 : 0 ≤ t) (h1 : t ≤ 300) : tbl.run (n + 1) "place_by" [.d (.tuple (hs.map Way.enc)), .d (.int t)] = M.pure (.d (place t hs)) := by
  obtain ⟨s3', s4', s5', s6', s7', e⟩ := loop_place n h0 h1 hs h.ok .none (.v (.d (.tuple (hs.map Way.enc)))) .un .un .un .un .un
  rw [w_place_by]
  simp [f_place_by, Fn.run, startE, S.ev, Ss.ev, E.ev, E.tst, Es.ev, Oe.prt, Oe.ok, It.ev, G.ev, bind_nm, bind_tp, bind_nil, bind_cons, Sl.get, datas, setMany, wipeE, Ty.is, asInt, partOf, fdiv_int, mod_int, ↓for_fold, ↓whi_fold, ↓gen_fold]
  rw [e]
  simp [Sl.get, place]
theorem r_place_at (n : Nat) {hs : List Way} (h : House hs) {t : Int} (h0 : 0 ≤ t) (h1 : t ≤ 300) : tbl.run (n + 6) "place_at" [.d (.tuple (hs.map Way.enc)), .d (.int t)] = M.pure (.d (place t hs)) := by
  have g1 := r_need_house n h
  have g2 := r_need_tick (n + 2) h0 h1
  have g3 := r_place_by (n + 4) h h0 h1
  rw [w_place_at]
  simp [f_place_at, Fn.run, startE, S.ev, Ss.ev, E.ev, E.tst, Es.ev, Oe.prt, Oe.ok, It.ev, G.ev, bind_nm, bind_tp, bind_nil, bind_cons, Sl.get, datas, setMany, wipeE, Ty.is, asInt, partOf, fdiv_int, mod_int, ↓for_fold, ↓whi_fold, ↓gen_fold, g1, g2, g3]
/-! ### step by step -/
theorem last_place (t : Int) : ∀ (hs : List Way) (f : PyData), hs.foldl (found t) f = ((hs.filter fun w => decide (w.b ≤ t)).getLast?.map (spot t)).getD f
  | [], f => rfl
  | w :: hs, f => by
    rw [List.foldl_cons, last_place t hs, List.filter_cons]
    by_cases hw : w.b ≤ t
    · simp only [found, hw, if_true, decide_true]
      cases q : (hs.filter fun w => decide (w.b ≤ t)) with
      | nil => rfl
      | cons a r => simp [List.getLast?_cons]
    · simp [found, hw]
theorem loop_walk (n : Nat) (w : Way) : ∀ (l : List D) (x y : Int) (s0 s1 s2 s3 s4 s9 : Sl), ∃ s3', forB (tbl.run n) tbl.cons (.nm 3) f__law_walked_l1 l [s0, s1, s2, s3, s4, .v (.d (.int x)), .v (.d (.int y)), .v (.d (.int w.p)), .v (.d (.int w.q)), s9]
      = M.pure (.nx [s0, s1, s2, s3', s4, .v (.d (.int (x + l.length * w.p))), .v (.d (.int (y + l.length * w.q))), .v (.d (.int w.p)), .v (.d (.int w.q)), s9])
  | [], x, y, s0, s1, s2, s3, s4, s9 => ⟨s3, by simp [forB_nil]⟩
  | d :: l, x, y, s0, s1, s2, s3, s4, s9 => by
    obtain ⟨s3', e⟩ := loop_walk n w l (x + w.p) (y + w.q) s0 s1 s2 (.v d) s4 s9
    refine ⟨s3', ?_⟩
    rw [forB_cons]
    have ht : (T.nm 3).bind d [s0, s1, s2, s3, s4, .v (.d (.int x)), .v (.d (.int y)), .v (.d (.int w.p)), .v (.d (.int w.q)), s9] = some [s0, s1, s2, .v d, s4, .v (.d (.int x)), .v (.d (.int y)), .v (.d (.int w.p)), .v (.d (.int w.q)), s9] := rfl
    have hb : f__law_walked_l1.ev (tbl.run n) tbl.cons [s0, s1, s2, .v d, s4, .v (.d (.int x)), .v (.d (.int y)), .v (.d (.int w.p)), .v (.d (.int w.q)), s9] = M.pure (.nx [s0, s1, s2, .v d, s4, .v (.d (.int (x + w.p))), .v (.d (.int (y + w.q))), .v (.d (.int w.p)), .v (.d (.int w.q)), s9]) := by
      simp [f__law_walked_l1, Fn.run, startE, S.ev, Ss.ev, E.ev, E.tst, Es.ev, Oe.prt, Oe.ok, It.ev, G.ev, bind_nm, bind_tp, bind_nil, bind_cons, Sl.get, datas, setMany, wipeE, Ty.is, asInt, partOf, fdiv_int, mod_int, ↓for_fold, ↓whi_fold, ↓gen_fold]
    rw [ht, M.lift_some, M.pure_bind, hb, M.pure_bind]
    refine e.trans ?_
    simp only [List.length_cons]
    have a1 : x + w.p + (l.length : Int) * w.p = x + ((l.length + 1 : Nat) : Int) * w.p := by
      rw [Int.natCast_add, Int.add_mul]; omega
    have a2 : y + w.q + (l.length : Int) * w.q = y + ((l.length + 1 : Nat) : Int) * w.q := by
      rw [Int.natCast_add, Int.add_mul]; omega
    rw [a1, a2]
theorem r_walked (n : Nat) {hs : List Way} (h : House hs) {t : Int} (h0 : 0 ≤ t) (h1 : t ≤ 300) : tbl.run (n + 1) "_law_walked" [.d (.tuple (hs.map Way.enc)), .d (.int t)] = M.pure (.d (place t hs)) := by
  have hg : genB (tbl.run n) tbl.cons (.nm 9) (.yes f__law_walked_d1) (.fin f__law_walked_c1) [.v (.d (.tuple (hs.map Way.enc))), .v (.d (.int t)), .un, .un, .un, .un, .un, .un, .un, .un] (hs.map (D.d ∘ Way.enc)) = M.pure ((hs.filter fun w => decide (w.b ≤ t)).map Way.enc) := by
    have := genB_filter (Φ := tbl.run n) (C := tbl.cons) (t := .nm 9) (c := f__law_walked_d1) (e := f__law_walked_c1) (env := [.v (.d (.tuple (hs.map Way.enc))), .v (.d (.int t)), .un, .un, .un, .un, .un, .un, .un, .un]) (xs := hs.map (D.d ∘ Way.enc))
      (g := fun x => match x with
        | .d p => p
        | _ => .none)
      (keep := fun x => match x with
        | .d (.tuple (.int b :: _)) => decide (b ≤ t)
        | _ => false) fun x hx => by
        obtain ⟨w, hw, rfl⟩ := List.mem_map.mp hx
        refine ⟨_, rfl, ?_, fun _ => ?_⟩
        · simp [f__law_walked_d1, Fn.run, startE, S.ev, Ss.ev, E.ev, E.tst, Es.ev, Oe.prt, Oe.ok, It.ev, G.ev, bind_nm, bind_tp, bind_nil, bind_cons, Sl.get, datas, setMany, wipeE, Ty.is, asInt, partOf, fdiv_int, mod_int, ↓for_fold, ↓whi_fold, ↓gen_fold, Way.enc, L2.atI, L2.ixN]
        · simp [f__law_walked_c1, Fn.run, startE, S.ev, Ss.ev, E.ev, E.tst, Es.ev, Oe.prt, Oe.ok, It.ev, G.ev, bind_nm, bind_tp, bind_nil, bind_cons, Sl.get, datas, setMany, wipeE, Ty.is, asInt, partOf, fdiv_int, mod_int, ↓for_fold, ↓whi_fold, ↓gen_fold]
    rw [this, List.filter_map, List.map_map]
    rfl
  have hf : ∀ w ∈ hs.filter (fun w => decide (w.b ≤ t)), w ∈ hs ∧ w.b ≤ t := fun w hw => by
    have := List.mem_filter.mp hw
    exact ⟨this.1, by simpa using this.2⟩
  have hl : fitsLine (hs.filter (fun w => decide (w.b ≤ t))).length = true := fits_small (Nat.le_trans (List.length_filter_le _ _) (by have := h.l1; omega))
  have hp := last_place t hs .none
  have nt : Neat 1000 2 (.list ((hs.filter fun w => decide (w.b ≤ t)).map Way.enc)) := by
    refine (Neat.list (Neats.all (w := 300) (d := 1) fun p hp => ?_)).mono ?_ (Nat.le_refl _)
    · obtain ⟨w, hw, rfl⟩ := List.mem_map.mp hp
      exact Way.neat (h.ok w (hf w hw).1)
    · have := h.l1
      have := List.length_filter_le (fun w : Way => decide (w.b ≤ t)) hs
      rw [List.length_map]
      omega
  unfold place
  rw [hp, w__law_walked]
  rcases List.eq_nil_or_concat (hs.filter fun w => decide (w.b ≤ t)) with e | ⟨i, w, e⟩
  · rw [e] at hg ⊢
    simp [f__law_walked, Fn.run, startE, S.ev, Ss.ev, E.ev, E.tst, Es.ev, Oe.prt, Oe.ok, It.ev, G.ev, bind_nm, bind_tp, bind_nil, bind_cons, Sl.get, datas, setMany, wipeE, Ty.is, asInt, partOf, fdiv_int, mod_int, ↓for_fold, ↓whi_fold, ↓gen_fold]
    rw [hg]
    simp [fits_small, (Neat.list Neats.nil).eq (by decide)]
  · rw [List.concat_eq_append] at e
    rw [e] at hg hl nt hf ⊢
    have hw := hf w (by simp)
    have ok := h.ok w hw.1
    have := ok.b0
    have hne : eqP (.list ((i ++ [w]).map Way.enc)) (.list []) = some false := by
      unfold eqP
      simp only
      rw [nt.shaped (by decide), (Neat.list Neats.nil).shaped (by decide)]
      cases i <;> rfl
    have hlast : L2.atI (i.map Way.enc ++ [w.enc]) (-1) = some w.enc := atI_last _ _
    simp [f__law_walked, Fn.run, startE, S.ev, Ss.ev, E.ev, E.tst, Es.ev, Oe.prt, Oe.ok, It.ev, G.ev, bind_nm, bind_tp, bind_nil, bind_cons, Sl.get, datas, setMany, wipeE, Ty.is, asInt, partOf, fdiv_int, mod_int, ↓for_fold, ↓whi_fold, ↓gen_fold]
    rw [hg]
    simp at hl hne
    simp [hl, hne, Sl.get, hlast]
    rw [show w.enc = .tuple [.int w.b, .int w.x, .int w.y, .int w.p, .int w.q] from rfl]
    simp [Fn.run, startE, S.ev, Ss.ev, E.ev, E.tst, Es.ev, Oe.prt, Oe.ok, It.ev, G.ev, bind_nm, bind_tp, bind_nil, bind_cons, Sl.get, datas, setMany, wipeE, Ty.is, asInt, partOf, fdiv_int, mod_int, ↓for_fold, ↓whi_fold, ↓gen_fold]
    rw [rangeM_ok (by decide) (by decide) (by omega) (by omega), M.pure_bind]
    obtain ⟨s3', ew⟩ := loop_walk n w (rangeL 0 (t - w.b - 0).toNat) w.x w.y (.v (.d (.tuple (hs.map Way.enc)))) (.v (.d (.int t))) (.v (lst (i.map Way.enc ++ [.tuple [.int w.b, .int w.x, .int w.y, .int w.p, .int w.q]]))) .un (.v (.d (.int w.b))) .un
    have el : ((rangeL 0 (t - w.b - 0).toNat).length : Int) = t - w.b := by
      have : (rangeL 0 (t - w.b - 0).toNat).length = (t - w.b - 0).toNat := by simp [rangeL]
      rw [this]
      omega
    rw [ew, el]
    simp [Sl.get, spot]
/-! ### drawn ways and houses -/
theorem r_way (n r : Nat) (b : Int) (h0 : 0 ≤ b) (h1 : b ≤ 255) (st : Sto) (h : St3 r st) : ∃ (w : Way) (st' : Sto), (tbl.run (n + 2) "_law_way" [.ref r, .d (.int b)]).at st = .ok (.d w.enc) st' ∧ St3 r st' ∧ w.Ok ∧ w.b = b := by
  obtain ⟨v1, s1, d1, i1, a1, b1⟩ := r_draw n r 22 (by decide) (by decide) st h
  obtain ⟨v2, s2, d2, i2, a2, b2⟩ := r_draw n r 22 (by decide) (by decide) s1 i1
  obtain ⟨v3, s3, d3, i3, a3, b3⟩ := r_draw n r 5 (by decide) (by decide) s2 i2
  obtain ⟨v4, s4, d4, i4, a4, b4⟩ := r_draw n r 5 (by decide) (by decide) s3 i3
  have e3 : ∃ p : Int, L2.atI [PyData.int 0, .int 1, .int (-1), .int 2, .int 0] v3 = some (.int p) ∧ -7 ≤ p ∧ p ≤ 7 := by
    have : v3 = 0 ∨ v3 = 1 ∨ v3 = 2 ∨ v3 = 3 ∨ v3 = 4 := by omega
    rcases this with rfl | rfl | rfl | rfl | rfl <;> exact ⟨_, rfl, by decide, by decide⟩
  have e4 : ∃ p : Int, L2.atI [PyData.int 0, .int (-1), .int 1, .int (-3), .int 0] v4 = some (.int p) ∧ -7 ≤ p ∧ p ≤ 7 := by
    have : v4 = 0 ∨ v4 = 1 ∨ v4 = 2 ∨ v4 = 3 ∨ v4 = 4 := by omega
    rcases this with rfl | rfl | rfl | rfl | rfl <;> exact ⟨_, rfl, by decide, by decide⟩
  obtain ⟨p, hp, p0, p1⟩ := e3
  obtain ⟨q, hq, q0, q1⟩ := e4
  refine ⟨⟨b, v1 - 6, v2 - 6, p, q⟩, s4, ?_, i4, ⟨h0, h1, by show -50 ≤ v1 - 6; omega, by show v1 - 6 ≤ 100; omega, by show -50 ≤ v2 - 6; omega, by show v2 - 6 ≤ 100; omega, p0, p1, q0, q1⟩, rfl⟩
  rw [w__law_way]
  simp [f__law_way, Fn.run, startE, S.ev, Ss.ev, E.ev, E.tst, Es.ev, Oe.prt, Oe.ok, It.ev, G.ev, bind_nm, bind_tp, bind_nil, bind_cons, Sl.get, datas, setMany, wipeE, Ty.is, asInt, partOf, fdiv_int, mod_int, ↓for_fold, ↓whi_fold, ↓gen_fold]
  rw [at_bind d1]
  simp
  rw [at_bind d2]
  simp [Sl.get]
  rw [at_bind d3]
  simp [hp]
  rw [at_bind d4]
  simp [hq, Way.enc]
theorem rising_snoc : ∀ {hs : List Way} {w : Way}, Rising hs → (∀ v ∈ hs, v.b < w.b) → Rising (hs ++ [w])
  | [], _, _, _ => trivial
  | [a], w, _, h => ⟨h a (by simp), trivial⟩
  | a :: b :: r, w, h, k => ⟨h.1, rising_snoc (hs := b :: r) h.2 fun v hv => k v (List.mem_cons_of_mem _ hv)⟩
theorem r_house (n r : Nat) (st : Sto) (h : St3 r st) : ∃ (hs : List Way) (st' : Sto), (tbl.run (n + 3) "_law_house" [.ref r]).at st = .ok (.d (.tuple (hs.map Way.enc))) st' ∧ St3 r st' ∧ House hs := by
  obtain ⟨v1, s1, d1, i1, a1, b1⟩ := r_draw (n + 1) r 4 (by decide) (by decide) st h
  have e1 : ∃ p : Int, L2.atI [PyData.int 0, .int 0, .int 0, .int 4] v1 = some (.int p) ∧ 0 ≤ p ∧ p ≤ 4 := by
    have : v1 = 0 ∨ v1 = 1 ∨ v1 = 2 ∨ v1 = 3 := by omega
    rcases this with rfl | rfl | rfl | rfl <;> exact ⟨_, rfl, by decide, by decide⟩
  obtain ⟨b, hb, b0, b1'⟩ := e1
  obtain ⟨p2, s2, d2, i2, m2⟩ := r_pick n r [.int 0, .int 0, .int 1, .int 2] (by decide) (by decide) s1 i1
  have e2 : ∃ k : Int, p2 = .int k ∧ 0 ≤ k ∧ k ≤ 2 := by
    simp at m2
    rcases m2 with rfl | rfl | rfl <;> exact ⟨_, rfl, by decide, by decide⟩
  obtain ⟨k, rfl, k0, k1⟩ := e2
  have el : (rangeL 0 (1 + k - 0).toNat).length = (1 + k - 0).toNat := by simp [rangeL]
  obtain ⟨env', s3, l3, hs, c, s1', rfl, hlen, c0, c1, hok, hlt, hri, i3⟩ := forB_ix (Φ := tbl.run (n + 2)) (C := tbl.cons) (t := .nm 1) (b := f__law_house_l1) (xs := rangeL 0 (1 + k - 0).toNat) (env := [.v (.ref r), .un, .v (.d (.int b)), .own []]) (st := s2)
    (I := fun i env s => ∃ (hs : List Way) (c : Int) (s1 : Sl), env = [.v (.ref r), s1, .v (.d (.int c)), .own (hs.map Way.enc)] ∧ hs.length = i ∧ 0 ≤ c ∧ c ≤ 4 + 9 * i ∧ (∀ w ∈ hs, w.Ok) ∧ (∀ w ∈ hs, w.b < c) ∧ Rising hs ∧ St3 r s) 0
    (fun i hi env s ⟨hs, c, s1, e, hlen, c0, c1, hok, hlt, hri, i3⟩ => by
      subst e
      rw [el] at hi
      obtain ⟨w, t1, g1, j1, wok, wb⟩ := r_way n r c c0 (by omega) s i3
      obtain ⟨v, t2, g2, j2, v0, v1⟩ := r_draw (n + 1) r 8 (by decide) (by decide) t1 j1
      refine ⟨_, [.v (.ref r), .v (rangeL 0 (1 + k - 0).toNat)[i], .v (.d (.int (c + 1 + v))), .own ((hs ++ [w]).map Way.enc)], t2, rfl, ?_, hs ++ [w], c + 1 + v, _, rfl, by simp; omega, by omega, by omega, fun u hu => ?_, fun u hu => ?_, rising_snoc hri fun u hu => by rw [wb]; exact hlt u hu, j2⟩
      · have hl : hs.length < 16777216 := by omega
        simp [f__law_house_l1, Fn.run, startE, S.ev, Ss.ev, E.ev, E.tst, Es.ev, Oe.prt, Oe.ok, It.ev, G.ev, bind_nm, bind_tp, bind_nil, bind_cons, Sl.get, datas, setMany, wipeE, Ty.is, asInt, partOf, fdiv_int, mod_int, ↓for_fold, ↓whi_fold, ↓gen_fold]
        rw [at_bind g1]
        simp [hl]
        rw [at_bind g2]
        simp
      · rcases List.mem_append.mp hu with e | e
        · exact hok u e
        · rw [List.mem_singleton.mp e]; exact wok
      · rcases List.mem_append.mp hu with e | e
        · have := hlt u e; omega
        · rw [List.mem_singleton.mp e, wb]; omega) ⟨[], b, .un, rfl, rfl, b0, by omega, fun _ hw => absurd hw List.not_mem_nil, fun _ hw => absurd hw List.not_mem_nil, trivial, i2⟩
  rw [el] at hlen
  refine ⟨hs, s3, ?_, i3, ⟨by omega, by omega, hok, hri⟩⟩
  rw [w__law_house]
  simp [f__law_house, Fn.run, startE, S.ev, Ss.ev, E.ev, E.tst, Es.ev, Oe.prt, Oe.ok, It.ev, G.ev, bind_nm, bind_tp, bind_nil, bind_cons, Sl.get, datas, setMany, wipeE, Ty.is, asInt, partOf, fdiv_int, mod_int, ↓for_fold, ↓whi_fold, ↓gen_fold, slotsOf, slotOf, putMany]
  rw [at_bind d1]
  simp [hb, slotsOf, slotOf, putMany, Sl.get]
  rw [at_bind d2]
  simp
  rw [rangeM_ok (by decide) (by decide) (by omega) (by omega), M.pure_bind, at_bind l3]
  simp [Sl.get]
theorem r_edge (n r : Nat) (st : Sto) (h : St3 r st) : ∃ (w : Way) (st' : Sto), (tbl.run (n + 2) "_law_edge_way" [.ref r]).at st = .ok (.d w.enc) st' ∧ St3 r st' ∧ w.Ok := by
  obtain ⟨v1, s1, d1, i1, a1, b1⟩ := r_draw n r 151 (by decide) (by decide) st h
  obtain ⟨v2, s2, d2, i2, a2, b2⟩ := r_draw n r 4 (by decide) (by decide) s1 i1
  obtain ⟨v3, s3, d3, i3, a3, b3⟩ := r_draw n r 151 (by decide) (by decide) s2 i2
  obtain ⟨v4, s4, d4, i4, a4, b4⟩ := r_draw n r 4 (by decide) (by decide) s3 i3
  obtain ⟨v5, s5, d5, i5, a5, b5⟩ := r_draw n r 256 (by decide) (by decide) s4 i4
  obtain ⟨v6, s6, d6, i6, a6, b6⟩ := r_draw n r 5 (by decide) (by decide) s5 i5
  obtain ⟨v7, s7, d7, i7, a7, b7⟩ := r_draw n r 15 (by decide) (by decide) s6 i6
  obtain ⟨v8, s8, d8, i8, a8, b8⟩ := r_draw n r 4 (by decide) (by decide) s7 i7
  obtain ⟨v9, s9, d9, i9, a9, b9⟩ := r_draw n r 15 (by decide) (by decide) s8 i8
  have e2 : ∃ p : Int, L2.atI [PyData.int (-50), .int 100, .int 0, .int (v1 - 50)] v2 = some (.int p) ∧ -50 ≤ p ∧ p ≤ 100 := by
    have : v2 = 0 ∨ v2 = 1 ∨ v2 = 2 ∨ v2 = 3 := by omega
    rcases this with rfl | rfl | rfl | rfl <;> exact ⟨_, rfl, by omega, by omega⟩
  have e4 : ∃ p : Int, L2.atI [PyData.int (-50), .int 100, .int 7, .int (v3 - 50)] v4 = some (.int p) ∧ -50 ≤ p ∧ p ≤ 100 := by
    have : v4 = 0 ∨ v4 = 1 ∨ v4 = 2 ∨ v4 = 3 := by omega
    rcases this with rfl | rfl | rfl | rfl <;> exact ⟨_, rfl, by omega, by omega⟩
  have e6 : ∃ p : Int, L2.atI [PyData.int 0, .int 255, .int 15, .int 16, .int v5] v6 = some (.int p) ∧ 0 ≤ p ∧ p ≤ 255 := by
    have : v6 = 0 ∨ v6 = 1 ∨ v6 = 2 ∨ v6 = 3 ∨ v6 = 4 := by omega
    rcases this with rfl | rfl | rfl | rfl | rfl <;> exact ⟨_, rfl, by omega, by omega⟩
  have e8 : ∃ p : Int, L2.atI [PyData.int (-7), .int 7, .int 0, .int (v7 - 7)] v8 = some (.int p) ∧ -7 ≤ p ∧ p ≤ 7 := by
    have : v8 = 0 ∨ v8 = 1 ∨ v8 = 2 ∨ v8 = 3 := by omega
    rcases this with rfl | rfl | rfl | rfl <;> exact ⟨_, rfl, by omega, by omega⟩
  obtain ⟨x, hx, x0, x1⟩ := e2
  obtain ⟨y, hy, y0, y1⟩ := e4
  obtain ⟨b, hb, b0, b1⟩ := e6
  obtain ⟨p, hp, p0, p1⟩ := e8
  refine ⟨⟨b, x, y, p, v9 - 7⟩, s9, ?_, i9, ⟨b0, b1, x0, x1, y0, y1, p0, p1, by show -7 ≤ v9 - 7; omega, by show v9 - 7 ≤ 7; omega⟩⟩
  rw [w__law_edge_way]
  refine at_run ⟨rfl, by decide⟩ ?_
  show (Ss.ev _ _ f__law_edge_way.body [.v (.ref r), .un, .un, .un]).at st = _
  refine (at_cons (env' := [.v (.ref r), .v (.d (.int x)), .un, .un]) (st' := s2) ?_).trans ?_
  · simp [Fn.run, startE, S.ev, Ss.ev, E.ev, E.tst, Es.ev, Oe.prt, Oe.ok, It.ev, G.ev, bind_nm, bind_tp, bind_nil, bind_cons, Sl.get, datas, setMany, wipeE, Ty.is, asInt, partOf, fdiv_int, mod_int, ↓for_fold, ↓whi_fold, ↓gen_fold]
    rw [at_bind d1]
    simp
    rw [at_bind d2]
    simp [hx]
  refine (at_cons (env' := [.v (.ref r), .v (.d (.int x)), .v (.d (.int y)), .un]) (st' := s4) ?_).trans ?_
  · simp [Fn.run, startE, S.ev, Ss.ev, E.ev, E.tst, Es.ev, Oe.prt, Oe.ok, It.ev, G.ev, bind_nm, bind_tp, bind_nil, bind_cons, Sl.get, datas, setMany, wipeE, Ty.is, asInt, partOf, fdiv_int, mod_int, ↓for_fold, ↓whi_fold, ↓gen_fold]
    rw [at_bind d3]
    simp
    rw [at_bind d4]
    simp [hy]
  refine (at_cons (env' := [.v (.ref r), .v (.d (.int x)), .v (.d (.int y)), .v (.d (.int b))]) (st' := s6) ?_).trans ?_
  · simp [Fn.run, startE, S.ev, Ss.ev, E.ev, E.tst, Es.ev, Oe.prt, Oe.ok, It.ev, G.ev, bind_nm, bind_tp, bind_nil, bind_cons, Sl.get, datas, setMany, wipeE, Ty.is, asInt, partOf, fdiv_int, mod_int, ↓for_fold, ↓whi_fold, ↓gen_fold]
    rw [at_bind d5]
    simp
    rw [at_bind d6]
    simp [hb]
  refine at_last ?_
  simp [Fn.run, startE, S.ev, Ss.ev, E.ev, E.tst, Es.ev, Oe.prt, Oe.ok, It.ev, G.ev, bind_nm, bind_tp, bind_nil, bind_cons, Sl.get, datas, setMany, wipeE, Ty.is, asInt, partOf, fdiv_int, mod_int, ↓for_fold, ↓whi_fold, ↓gen_fold]
  rw [at_bind d7]
  simp
  rw [at_bind d8]
  simp [hp]
  rw [at_bind d9]
  simp [Way.enc]
theorem place_neat {hs : List Way} (h : House hs) {t : Int} (h0 : 0 ≤ t) (h1 : t ≤ 300) : Neat 200 1 (place t hs) := by
  unfold place
  rw [last_place]
  cases q : (hs.filter fun w => decide (w.b ≤ t)).getLast? with
  | none => exact Neat.none.mono (by decide) (by decide)
  | some w =>
    have hm : w ∈ hs.filter fun w => decide (w.b ≤ t) := List.mem_of_getLast? q
    have hw := List.mem_filter.mp hm
    have ok := h.ok w hw.1
    have hb : w.b ≤ t := by simpa using hw.2
    have := ok.b0; have := ok.x0; have := ok.x1; have := ok.y0; have := ok.y1; have := ok.p0; have := ok.p1; have := ok.q0; have := ok.q1
    have m : ∀ (a c : Int), 0 ≤ a → a ≤ 300 → -7 ≤ c → c ≤ 7 → (a * c).natAbs ≤ 2100 := fun a c a0 a1 c0 c1 => by
      rw [Int.natAbs_mul]
      exact Nat.le_trans (Nat.mul_le_mul (show a.natAbs ≤ 300 by omega) (show c.natAbs ≤ 7 by omega)) (by decide)
    have m1 := m (t - w.b) w.p (by omega) (by omega) ok.p0 ok.p1
    have m2 := m (t - w.b) w.q (by omega) (by omega) ok.q0 ok.q1
    exact (Neat.tuple (Neats.ints (ns := [w.x + (t - w.b) * w.p, w.y + (t - w.b) * w.q]) fun i hi => by
      simp at hi
      rcases hi with rfl | rfl
      · omega
      · omega)).mono (by simp) (Nat.le_refl _)
theorem turn_tick (n : Nat) {hs : List Way} (h : House hs) {t : Int} (h0 : 0 ≤ t) (h1 : t ≤ 300) (s0 s1 s3 s4 s5 s6 s7 s9 : Sl) :
    f__law_right_l2.ev (tbl.run (n + 6)) tbl.cons [s0, s1, .v (.d (.tuple (hs.map Way.enc))), s3, s4, s5, s6, s7, .v (.d (.int t)), s9] = M.pure (.nx [s0, s1, .v (.d (.tuple (hs.map Way.enc))), s3, s4, s5, s6, s7, .v (.d (.int t)), .v (.d (place t hs))]) := by
  have g1 := r_walked (n + 5) h h0 h1
  have g2 := r_place_at n h h0 h1
  have np := place_neat h h0 h1
  have n2 : Neat 1000 2 (.list [place t hs, place t hs]) := (Neat.list (Neats.cons np (Neats.cons np (Neats.nil.mono (w' := 0) (d' := 1) (Nat.zero_le _) (Nat.zero_le _))))).mono (by omega) (by omega)
  have g3 := r_same (n + 5) n2 (by decide) (by decide)
  simp [f__law_right_l2, Fn.run, startE, S.ev, Ss.ev, E.ev, E.tst, Es.ev, Oe.prt, Oe.ok, It.ev, G.ev, bind_nm, bind_tp, bind_nil, bind_cons, Sl.get, datas, setMany, wipeE, Ty.is, asInt, partOf, fdiv_int, mod_int, ↓for_fold, ↓whi_fold, ↓gen_fold, g1, g2, g3]
theorem turn_house (n r : Nat) {hs : List Way} (h : House hs) (st : Sto) (hp : St3 r st) (s1 s3 s4 s5 s6 s7 s8 s9 : Sl) : ∃ s5' s6' s7' s8' s9' st', (f__law_right_l3.ev (tbl.run (n + 6)) tbl.cons [.v (.ref r), s1, .v (.d (.tuple (hs.map Way.enc))), s3, s4, s5, s6, s7, s8, s9]).at st
    = .ok (.nx [.v (.ref r), s1, .v (.d (.tuple (hs.map Way.enc))), s3, s4, s5', s6', s7', s8', s9']) st' ∧ St3 r st' := by
  obtain ⟨v, st1, d1, i1, v0, v1⟩ := r_draw (n + 5) r 301 (by decide) (by decide) st hp
  have hr := h.neat.repr (by decide) (by decide)
  -- the ticks
  obtain ⟨env', st2, l2, ts, s7', rfl, tl, tok, i2⟩ := forB_ix (Φ := tbl.run (n + 6)) (C := tbl.cons) (t := .nm 7) (b := f__law_right_l1) (xs := hs.map (D.d ∘ Way.enc))
    (env := [.v (.ref r), s1, .v (.d (.tuple (hs.map Way.enc))), s3, s4, .v (.d (.str (PyData.tuple (hs.map Way.enc)).shown)), .v (.d (.list ([0, 1, 300, 299, v].map .int))), s7, s8, s9]) (st := st1)
    (I := fun i env s => ∃ (ts : List Int) (s7 : Sl), env = [.v (.ref r), s1, .v (.d (.tuple (hs.map Way.enc))), s3, s4, .v (.d (.str (PyData.tuple (hs.map Way.enc)).shown)), .v (.d (.list (ts.map .int))), s7, s8, s9] ∧ ts.length = 5 + 3 * i ∧ (∀ t ∈ ts, 0 ≤ t ∧ t ≤ 300) ∧ St3 r s) 0
    (fun i hi env s ⟨ts, s7, e, tl, tok, ip⟩ => by
      subst e
      rw [List.length_map] at hi
      have ok := h.ok hs[i] (List.getElem_mem hi)
      have hl := h.l1
      have := ok.b0; have := ok.b1
      have f1 : fitsLine (ts.length + 3) = true := fits_small (by omega)
      refine ⟨[.v (.ref r), s1, .v (.d (.tuple (hs.map Way.enc))), s3, s4, .v (.d (.str (PyData.tuple (hs.map Way.enc)).shown)), .v (.d (.list (ts.map .int))), .v (.d hs[i].enc), s8, s9], _, s, by simp [Fn.run, startE, S.ev, Ss.ev, E.ev, E.tst, Es.ev, Oe.prt, Oe.ok, It.ev, G.ev, bind_nm, bind_tp, bind_nil, bind_cons, Sl.get, datas, setMany, wipeE, Ty.is, asInt, partOf, fdiv_int, mod_int, ↓for_fold, ↓whi_fold, ↓gen_fold], ?_, ts ++ [hs[i].b, hs[i].b + 1, if hs[i].b - 1 > 0 then hs[i].b - 1 else 0], .v (.d hs[i].enc), rfl, by simp; omega, fun t ht => ?_, ip⟩
      · simp [f__law_right_l1, Fn.run, startE, S.ev, Ss.ev, E.ev, E.tst, Es.ev, Oe.prt, Oe.ok, It.ev, G.ev, bind_nm, bind_tp, bind_nil, bind_cons, Sl.get, datas, setMany, wipeE, Ty.is, asInt, partOf, fdiv_int, mod_int, ↓for_fold, ↓whi_fold, ↓gen_fold, Way.enc, L2.atI, L2.ixN, add_lst, f1]
      · rcases List.mem_append.mp ht with e | e
        · exact tok t e
        · simp at e
          rcases e with rfl | rfl | rfl
          · omega
          · omega
          · split <;> omega) ⟨_, s7, rfl, by simp, fun t ht => by simp at ht; omega, i1⟩
  -- each tick
  obtain ⟨env', st3, l3, s8', s9', rfl, i3⟩ := forB_ok (Φ := tbl.run (n + 6)) (C := tbl.cons) (t := .nm 8) (b := f__law_right_l2) (xs := ts.map (D.d ∘ PyData.int))
    (env := [.v (.ref r), s1, .v (.d (.tuple (hs.map Way.enc))), s3, s4, .v (.d (.str (PyData.tuple (hs.map Way.enc)).shown)), .v (.d (.list (ts.map .int))), s7', s8, s9]) (st := st2)
    (I := fun env s => ∃ s8 s9, env = [.v (.ref r), s1, .v (.d (.tuple (hs.map Way.enc))), s3, s4, .v (.d (.str (PyData.tuple (hs.map Way.enc)).shown)), .v (.d (.list (ts.map .int))), s7', s8, s9] ∧ St3 r s)
    (fun x hx env s ⟨s8, s9, e, ip⟩ => by
      subst e
      obtain ⟨t, ht, rfl⟩ := List.mem_map.mp hx
      have hb := turn_tick n h (tok t ht).1 (tok t ht).2 (.v (.ref r)) s1 s3 s4 (.v (.d (.str (PyData.tuple (hs.map Way.enc)).shown))) (.v (.d (.list (ts.map .int)))) s7' s9
      exact ⟨_, _, s, rfl, by rw [show ((D.d ∘ PyData.int) t) = D.d (.int t) from rfl]; exact congrFun hb s, _, _, rfl, ip⟩) ⟨s8, s9, rfl, i2⟩
  refine ⟨.v (.d (.str (PyData.tuple (hs.map Way.enc)).shown)), .v (.d (.list (ts.map .int))), s7', s8', s9', st3, ?_, i3⟩
  refine (at_cons (env' := [.v (.ref r), s1, .v (.d (.tuple (hs.map Way.enc))), s3, s4, .v (.d (.str (PyData.tuple (hs.map Way.enc)).shown)), s6, s7, s8, s9]) (st' := st) ?_).trans ?_
  · simp [Fn.run, startE, S.ev, Ss.ev, E.ev, E.tst, Es.ev, Oe.prt, Oe.ok, It.ev, G.ev, bind_nm, bind_tp, bind_nil, bind_cons, Sl.get, datas, setMany, wipeE, Ty.is, asInt, partOf, fdiv_int, mod_int, ↓for_fold, ↓whi_fold, ↓gen_fold, hr]
  refine (at_cons (env' := [.v (.ref r), s1, .v (.d (.tuple (hs.map Way.enc))), s3, s4, .v (.d (.str (PyData.tuple (hs.map Way.enc)).shown)), .v (.d (.list ([0, 1, 300, 299, v].map .int))), s7, s8, s9]) (st' := st1) ?_).trans ?_
  · simp [Fn.run, startE, S.ev, Ss.ev, E.ev, E.tst, Es.ev, Oe.prt, Oe.ok, It.ev, G.ev, bind_nm, bind_tp, bind_nil, bind_cons, Sl.get, datas, setMany, wipeE, Ty.is, asInt, partOf, fdiv_int, mod_int, ↓for_fold, ↓whi_fold, ↓gen_fold]
    rw [at_bind d1]
    simp
  refine (at_cons (env' := [.v (.ref r), s1, .v (.d (.tuple (hs.map Way.enc))), s3, s4, .v (.d (.str (PyData.tuple (hs.map Way.enc)).shown)), .v (.d (.list (ts.map .int))), s7', s8, s9]) (st' := st2) ?_).trans ?_
  · simpa [Fn.run, startE, S.ev, Ss.ev, E.ev, E.tst, Es.ev, Oe.prt, Oe.ok, It.ev, G.ev, bind_nm, bind_tp, bind_nil, bind_cons, Sl.get, datas, setMany, wipeE, Ty.is, asInt, partOf, fdiv_int, mod_int, ↓for_fold, ↓whi_fold, ↓gen_fold] using l2
  refine (at_cons (env' := [.v (.ref r), s1, .v (.d (.tuple (hs.map Way.enc))), s3, s4, .v (.d (.str (PyData.tuple (hs.map Way.enc)).shown)), .v (.d (.list (ts.map .int))), s7', s8', s9']) (st' := st3) ?_).trans ?_
  · simpa [Fn.run, startE, S.ev, Ss.ev, E.ev, E.tst, Es.ev, Oe.prt, Oe.ok, It.ev, G.ev, bind_nm, bind_tp, bind_nil, bind_cons, Sl.get, datas, setMany, wipeE, Ty.is, asInt, partOf, fdiv_int, mod_int, ↓for_fold, ↓whi_fold, ↓gen_fold] using l3
  refine (at_cons (env' := [.v (.ref r), s1, .v (.d (.tuple (hs.map Way.enc))), s3, s4, .v (.d (.str (PyData.tuple (hs.map Way.enc)).shown)), .v (.d (.list (ts.map .int))), s7', s8', s9']) (st' := st3) ?_).trans ?_
  · simp [Fn.run, startE, S.ev, Ss.ev, E.ev, E.tst, Es.ev, Oe.prt, Oe.ok, It.ev, G.ev, bind_nm, bind_tp, bind_nil, bind_cons, Sl.get, datas, setMany, wipeE, Ty.is, asInt, partOf, fdiv_int, mod_int, ↓for_fold, ↓whi_fold, ↓gen_fold, hr]
  rfl
theorem r_right (n r : Nat) (st : Sto) (hp : St3 r st) : ∃ st', (tbl.run (n + 7) "_law_right" [.ref r]).at st = .ok (.d (.bool true)) st' ∧ St3 r st' := by
  obtain ⟨w1, st1, d1, i1, k1⟩ := r_edge (n + 4) r st hp
  obtain ⟨w2, st2, d2, i2, k2⟩ := r_edge (n + 4) r st1 i1
  obtain ⟨hs, st3, d3, i3, k3⟩ := r_house (n + 3) r st2 i2
  have h1 : House [w1] := ⟨by simp, by simp, fun w hw => by rw [List.mem_singleton.mp hw]; exact k1, trivial⟩
  obtain ⟨rows, hrows, hok⟩ : ∃ rows : List (List Way), (PyData.list ([.tuple (hs.map Way.enc), .tuple [w1.enc]] ++ (List.replicate (if w1.b < w2.b then 1 else 0) [PyData.tuple [w1.enc, w2.enc]]).flatten) = .list (rows.map fun l => .tuple (l.map Way.enc))) ∧ ∀ l ∈ rows, House l := by
    by_cases hw : w1.b < w2.b
    · refine ⟨[hs, [w1], [w1, w2]], by simp [hw], fun l hl => ?_⟩
      simp at hl
      rcases hl with rfl | rfl | rfl
      · exact k3
      · exact h1
      · exact ⟨by simp, by simp, fun w hw => by
          simp at hw
          rcases hw with rfl | rfl
          · exact k1
          · exact k2, ⟨hw, trivial⟩⟩
    · refine ⟨[hs, [w1]], by simp [hw], fun l hl => ?_⟩
      simp at hl
      rcases hl with rfl | rfl
      · exact k3
      · exact h1
  obtain ⟨env', st4, l4, s2, s5, s6, s7, s8, s9, rfl, i4⟩ := forB_ok (Φ := tbl.run (n + 6)) (C := tbl.cons) (t := .nm 2) (b := f__law_right_l3) (xs := rows.map fun l => .d (.tuple (l.map Way.enc)))
    (env := [.v (.ref r), .v (.d (.list (rows.map fun l => .tuple (l.map Way.enc)))), .un, .v (.d w1.enc), .v (.d w2.enc), .un, .un, .un, .un, .un]) (st := st3)
    (I := fun env s => ∃ s2 s5 s6 s7 s8 s9, env = [.v (.ref r), .v (.d (.list (rows.map fun l => .tuple (l.map Way.enc)))), s2, .v (.d w1.enc), .v (.d w2.enc), s5, s6, s7, s8, s9] ∧ St3 r s)
    (fun x hx env s ⟨s2, s5, s6, s7, s8, s9, e, ip⟩ => by
      subst e
      obtain ⟨l, hl, rfl⟩ := List.mem_map.mp hx
      obtain ⟨s5', s6', s7', s8', s9', s', h, ip'⟩ := turn_house n r (hok l hl) s ip (.v (.d (.list (rows.map fun l => .tuple (l.map Way.enc))))) (.v (.d w1.enc)) (.v (.d w2.enc)) s5 s6 s7 s8 s9
      exact ⟨_, _, s', rfl, h, _, _, _, _, _, _, rfl, ip'⟩) ⟨_, _, _, _, _, _, rfl, i3⟩
  refine ⟨st4, ?_, i4⟩
  rw [w__law_right]
  refine at_run ⟨rfl, by decide⟩ ?_
  show (Ss.ev _ _ f__law_right.body [.v (.ref r), .un, .un, .un, .un, .un, .un, .un, .un, .un]).at st = _
  refine (at_cons (env' := [.v (.ref r), .un, .un, .v (.d w1.enc), .v (.d w2.enc), .un, .un, .un, .un, .un]) (st' := st2) ?_).trans ?_
  · simp [Fn.run, startE, S.ev, Ss.ev, E.ev, E.tst, Es.ev, Oe.prt, Oe.ok, It.ev, G.ev, bind_nm, bind_tp, bind_nil, bind_cons, Sl.get, datas, setMany, wipeE, Ty.is, asInt, partOf, fdiv_int, mod_int, ↓for_fold, ↓whi_fold, ↓gen_fold]
    rw [at_bind d1, at_bind d2]
    simp
  refine (at_cons (env' := [.v (.ref r), .v (.d (.list (rows.map fun l => .tuple (l.map Way.enc)))), .un, .v (.d w1.enc), .v (.d w2.enc), .un, .un, .un, .un, .un]) (st' := st3) ?_).trans ?_
  · have hx1 : ixP w1.enc 0 = some (.int w1.b) := rfl
    have hx2 : ixP w2.enc 0 = some (.int w2.b) := rfl
    have ib : ∀ c : Bool, Bl.run .int [.bool c] = some (.int (if c then 1 else 0)) := fun _ => rfl
    have fl : ∀ m, m ≤ 3 → fitsLine m = true := fun m hm => fits_small (by omega)
    rw [← hrows]
    simp [Fn.run, startE, S.ev, Ss.ev, E.ev, E.tst, Es.ev, Oe.prt, Oe.ok, It.ev, G.ev, bind_nm, bind_tp, bind_nil, bind_cons, Sl.get, datas, setMany, wipeE, Ty.is, asInt, partOf, fdiv_int, mod_int, ↓for_fold, ↓whi_fold, ↓gen_fold]
    rw [at_bind d3]
    by_cases hw : w1.b < w2.b
    · simp [hx1, hx2, ib, hw, mul_lst, add_lst, fl]
    · simp [hx1, hx2, ib, hw, mul_lst, add_lst, fl]
  refine (at_cons (env' := [.v (.ref r), .v (.d (.list (rows.map fun l => .tuple (l.map Way.enc)))), s2, .v (.d w1.enc), .v (.d w2.enc), s5, s6, s7, s8, s9]) (st' := st4) ?_).trans ?_
  · simpa [Fn.run, startE, S.ev, Ss.ev, E.ev, E.tst, Es.ev, Oe.prt, Oe.ok, It.ev, G.ev, bind_nm, bind_tp, bind_nil, bind_cons, Sl.get, datas, setMany, wipeE, Ty.is, asInt, partOf, fdiv_int, mod_int, ↓for_fold, ↓whi_fold, ↓gen_fold, Function.comp_def] using l4
  rfl
theorem turn_k (n k : Nat) (ns : List Int) (st : Sto) (s2 s3 : Sl) : ∃ s2' s3' st', (f_law_l2.ev (tbl.run (n + 7)) tbl.cons [.v (.scr ns), .v (.d (.int k)), s2, s3]).at st = .ok (.nx [.v (.scr ns), .v (.d (.int k)), s2', s3']) st' := by
  obtain ⟨i, hc⟩ := r_cell (n + 6) ns k
  obtain ⟨st1, h1, i1⟩ := r_pen (n + 6) i st
  obtain ⟨env', st2, l2, s3', rfl, i2⟩ := forB_ok (Φ := tbl.run (n + 7)) (C := tbl.cons) (t := .nm 3) (b := f_law_l1) (xs := rangeL 0 (2 - 0 : Int).toNat) (env := [.v (.scr ns), .v (.d (.int k)), .v (.ref st.length), s3]) (st := st1)
    (I := fun env s => ∃ s3, env = [.v (.scr ns), .v (.d (.int k)), .v (.ref st.length), s3] ∧ St3 st.length s)
    (fun x hx env s ⟨s3, e, ip⟩ => by
      subst e
      obtain ⟨s', h, ip'⟩ := r_right n st.length s ip
      refine ⟨_, [.v (.scr ns), .v (.d (.int k)), .v (.ref st.length), .v x], s', rfl, ?_, _, rfl, ip'⟩
      simp [f_law_l1, Fn.run, startE, S.ev, Ss.ev, E.ev, E.tst, Es.ev, Oe.prt, Oe.ok, It.ev, G.ev, bind_nm, bind_tp, bind_nil, bind_cons, Sl.get, datas, setMany, wipeE, Ty.is, asInt, partOf, fdiv_int, mod_int, ↓for_fold, ↓whi_fold, ↓gen_fold]
      rw [at_bind h]
      simp) ⟨s3, rfl, i1⟩
  refine ⟨.v (.ref st.length), s3', st2, ?_⟩
  refine (at_cons (env' := [.v (.scr ns), .v (.d (.int k)), .v (.ref st.length), s3]) (st' := st1) ?_).trans ?_
  · simp [Fn.run, startE, S.ev, Ss.ev, E.ev, E.tst, Es.ev, Oe.prt, Oe.ok, It.ev, G.ev, bind_nm, bind_tp, bind_nil, bind_cons, Sl.get, datas, setMany, wipeE, Ty.is, asInt, partOf, fdiv_int, mod_int, ↓for_fold, ↓whi_fold, ↓gen_fold, hc]
    rw [at_bind h1]
    simp
  refine (at_cons (env' := [.v (.scr ns), .v (.d (.int k)), .v (.ref st.length), s3']) (st' := st2) ?_).trans ?_
  · simp [Fn.run, startE, S.ev, Ss.ev, E.ev, E.tst, Es.ev, Oe.prt, Oe.ok, It.ev, G.ev, bind_nm, bind_tp, bind_nil, bind_cons, Sl.get, datas, setMany, wipeE, Ty.is, asInt, partOf, fdiv_int, mod_int, ↓for_fold, ↓whi_fold, ↓gen_fold]
    rw [rangeM_ok (by decide) (by decide) (by decide) (by decide), M.pure_bind]
    exact l2
  rfl
theorem plain (ns : List Int) (hl : ns.length ≤ 63) : ∃ st, tbl.run 20 "law" [.scr ns] [] = .ok (bl true) st := by
  obtain ⟨env', st', l2, s1, s2, s3, rfl⟩ := forB_ok (Φ := tbl.run 19) (C := tbl.cons) (t := .nm 1) (b := f_law_l2) (xs := rangeL 0 ((if 1 < (if (5 : Int) < ns.length then (5 : Int) else ns.length) then (if (5 : Int) < ns.length then (5 : Int) else ns.length) else 1) - 0).toNat) (env := [.v (.scr ns), .un, .un, .un]) (st := [])
    (I := fun env _ => ∃ s1 s2 s3, env = [.v (.scr ns), s1, s2, s3])
    (fun x hx env s ⟨s1, s2, s3, e⟩ => by
      subst e
      obtain ⟨k, _, rfl⟩ := mem_rangeL hx
      rw [Int.zero_add]
      obtain ⟨s2', s3', s', h⟩ := turn_k 12 k ns s s2 s3
      exact ⟨_, _, s', rfl, h, _, _, _, rfl⟩) ⟨_, _, _, rfl⟩
  refine ⟨st', ?_⟩
  show (tbl.run (19 + 1) "law" [.scr ns]).at [] = _
  rw [w_law]
  refine at_run ⟨rfl, by decide⟩ ?_
  show (Ss.ev _ _ f_law.body [.v (.scr ns), .un, .un, .un]).at [] = _
  refine (at_cons (env' := [.v (.scr ns), s1, s2, s3]) (st' := st') ?_).trans rfl
  simp [Fn.run, startE, S.ev, Ss.ev, E.ev, E.tst, Es.ev, Oe.prt, Oe.ok, It.ev, G.ev, bind_nm, bind_tp, bind_nil, bind_cons, Sl.get, datas, setMany, wipeE, Ty.is, asInt, partOf, fdiv_int, mod_int, ↓for_fold, ↓whi_fold, ↓gen_fold]
  rw [rangeM_ok (by decide) (by decide) (by split <;> split <;> omega) (by split <;> split <;> omega), M.pure_bind]
  exact l2
end Lw

set_option Elab.async false
set_option linter.all false
set_option maxRecDepth 100000
set_option maxHeartbeats 0
namespace Lw
open PySem PySem.Spec PyProof.Rows L2 Fb
abbrev opn : PySem.W.OpenRow := PySem.W.OpenLaw.row PySem.Challenge.rw_farbeats_k22_where_houses_are
abbrev seen : Program := PySem.W.view opn.prog [29]
def loose : List PySem.Str := (["BeatError", "NoHouse", "NoTick", "is_whole", "is_within", "rises", "BOUNDS", "MOST_WAYS", "MOST_TICK", "is_way", "is_house", "need_house", "need_tick", "place_by", "place_at", "_law_cell_at", "_law_pen", "_law_draw", "_law_pick", "_law_same", "_law_way", "_law_house", "_law_edge_way", "_law_walked", "_law_right"] : List PySem.Str)
abbrev hk : PySem.W.Hook := He.hookX 5 tbl.fa tbl.fd [] [] tbl.ex
def ob (s : PySem.W.SharedT) : He.AlX := He.obsX 5 tbl.fa tbl.fd [] [] tbl.ex (HandSHeadRun.getT s)
theorem ob_eq (s : PySem.W.SharedT) : ob s = hk.obs s.abs := He.obsX_eq (HandSHeadRun.getT_eq s)
theorem runs (w : World) : HandSHeadRun.RunEq opn seen hk ob 4000 loose w := by
  intro os
  kernel_rfl
end Lw

set_option Elab.async false
set_option linter.all false
set_option maxRecDepth 100000
set_option maxHeartbeats 0
open PySem PySem.W PySem.Calls PyProof.Rows
theorem PySem.Challenge.cw_farbeats_k22_where_houses_are_holds : PySem.Challenge.rw_farbeats_k22_where_houses_are.Holds := by
  w_on; o_law
  refine HandSHeadRun.head_any (r := Lw.opn) (q := Lw.seen) (H := Lw.hk) (ob := Lw.ob) (M := 4000) (loose := Lw.loose) (d := HandSHeadRun.topDef Lw.opn.prog 29) (kwd := []) Lw.ob_eq
    (by kernel_rfl) (fun s => by kernel_rfl) Lw.runs (by kernel_rfl) (by kernel_rfl) (by kernel_rfl) (by rfl) (by first | assumption | decide +kernel) (by decide +kernel) ⟨rfl, rfl, rfl, rfl, rfl, by decide +kernel⟩ ?hw ?hc
  case hw => w_witness2
  case hc => exact Fb.walk_g (l := PySem.Challenge.rw_farbeats_k22_where_houses_are) (n := 63) (k := 20) Lw.ok Lw.q_law rfl (by kernel_rfl) rfl (by decide) (by kernel_rfl) ⟨rfl, by decide, by decide⟩ Lw.plain

