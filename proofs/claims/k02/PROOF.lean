import PyProof.Rows.All
import PyProof.EqLayable
import Wide.All
import OpenK.AllK
import Wide.FinOn
import HandS.ForMost
import HandS.ForExc
import HandS.Wide
import HandS.Flow
import HandS.Deep
import HandS.IsInst
import HandS.RevRange
import HandS.Rev
import HandS.TupAny
import HandS.SortInts
import HandS.Defaults
import HandS.Text
import HandS.WordsDict
import HandS.Flt
import HandS.TupLe
import HandS.WideBits
import HandS.ExcOwn
import HandS.CallLocal
import HandS.TryMany
import PyProof.Rows.FactsN_isinstance
import HandS.More
import HandS.HeadHook2
import HandS.HeadHook4
import HandS.Head2
import HandS.HeadEnd
import PySem.Challenge.RW_sillwatch_k02_text_fields
set_option Elab.async false
set_option linter.all false
set_option maxRecDepth 100000
set_option maxHeartbeats 4000000
set_option linter.all false
set_option autoImplicit false
/-! A small machine for the part of Python that the given program uses: values, a store, expressions with numbered names, and what they do. -/
namespace PyI
abbrev Str := PySem.Str

/-- a value: tuples lie open, lists, dicts and instances stand in the store -/
inductive U where
  | non | bl (b : Bool) | int (i : Int) | str (x : Str) | tup (us : List U) | ref (l : Nat) | fn (f : Nat) | ty (c : Nat)

inductive Key where
  | i (k : Int) | s (x : Str)
  deriving DecidableEq

/-- what stands at a place of the store; fz: a list that nobody changes -/
inductive Cell where
  | lst (us : List U) | fz (us : List U) | ins (c : Nat) (fs : List (Nat × U)) | dct (kvs : List (Key × U)) | xd (fs : List (Nat × U))
abbrev Store := List Cell
abbrev Env := List (Option U)

inductive R (α : Type) where
  | val (a : α) (S : Store) | exc (c : Nat) (d : Option Nat) (S : Store) | stuck
inductive Out where
  | nx (env : Env) (S : Store) | rt (u : U) (S : Store) | bk (env : Env) (S : Store) | ct (env : Env) (S : Store)
  | exc (c : Nat) (d : Option Nat) (env : Env) (S : Store) | stuck

def R.bind {α β : Type} : R α → (α → Store → R β) → R β
  | .val a S, f => f a S
  | .exc c d S, _ => .exc c d S
  | .stuck, _ => .stuck
/-- an expression's answer within a statement -/
def R.out {α : Type} (env : Env) : R α → (α → Store → Out) → Out
  | .val a S, f => f a S
  | .exc c d S, _ => .exc c d env S
  | .stuck, _ => .stuck
def ofO {α : Type} (S : Store) : Option α → R α
  | some a => .val a S
  | none => .stuck

inductive Bop where
  | add | sub | mul | fdiv | mod | band
inductive Cop where
  | eq | ne | lt | le | gt | ge | isN | notN | mem | nmem | is | isnot
inductive Ty where
  | int | bool | str | list | tuple | cls (c : Nat)
inductive Bi where
  | len | int | abs | min | max | sum | all | any | list | tuple | sorted | isi (t : Ty) | ord | str | minL | sortedSet | dictOf
inductive Bm where
  | append | extend | pop | popAt | index | insert | join | get | get2 | dpop | dpop2 | remove

inductive Tg where
  | nm (i : Nat) | tp (ts : List Nat)

mutual
inductive E where
  | var (i : Nat) | int (i : Int) | str (s : Str) | bl (b : Bool) | non
  | glo (g : Nat) | fnv (f : Nat)
  | bin (o : Bop) (a b : E) | neg (a : E)
  | cmp (o : Cop) (a b : E) | cmp2 (o p : Cop) (a b c : E)
  | and (a b : E) | or (a b : E) | not (a : E) | ife (c a b : E)
  | tup (es : Es) | lst (es : Es)
  | ix (a b : E) | cut (a : E) (lo hi : Eo)
  | fld (a : E) (f : Nat)
  | call (f : Nat) (es : Es) | callv (x : Nat) (es : Es) | meth (m : Nat) (o : E) (es : Es) | mk (c : Nat) (es : Es)
  | bi (b : Bi) (es : Es) | bm (b : Bm) (o : E) (es : Es)
  | comp (own : List Nat) (t : Tg) (it : It) (c : Eo) (e : E)
  | comp2 (own : List Nat) (t : Tg) (it : It) (c : Eo) (own1 : List Nat) (t1 : Tg) (it1 : It) (c1 : Eo) (e : E)
  | dict0
inductive Es where
  | nil | cons (e : E) (r : Es)
inductive Eo where
  | none | some (e : E)
inductive It where
  | seq (e : E) | rng1 (e : E) | rng2 (a b : E) | enum (e : E) | zip (a b : E) | rev (e : E) | chars (e : E)
end

mutual
inductive St where
  | asg (t : Tg) (e : E) | setf (o : E) (f : Nat) (e : E) | seti (o i e : E)
  | aug (i : Nat) (o : Bop) (e : E) | augf (o : E) (f : Nat) (p : Bop) (e : E)
  | exp (e : E) | ret (e : E) | retN
  | ifS (c : E) (a b : Sts) | whl (c : E) (b : Sts) | for_ (t : Tg) (it : It) (b : Sts)
  | brk | cnt | pass
  | raise (c : Nat) (es : Es) | tryM (b : Sts) (hs : Hs) | tryAs (b : Sts) (c : Nat) (i : Nat) (h : Sts)
  | del (o i : E)
inductive Sts where
  | nil | cons (s : St) (r : Sts)
/-- except clauses -/
inductive Hs where
  | nil | cons (c : Nat) (h : Sts) (r : Hs)
end

structure Fn where
  np : Nat
  nl : Nat
  body : Sts
/-- the program: its functions, its constants, its methods (class, name, function), its constructors, its exceptions (class, ancestors) -/
structure Pg where
  fns : List Fn
  glo : List U
  meths : List ((Nat × Nat) × Nat)
  inits : List (Nat × Nat)
  excs : List (Nat × List Nat)

/-! ### operations -/
abbrev LINE : Nat := 16777216
def seqO {α : Type} : List (Option α) → Option (List α)
  | [] => some []
  | none :: _ => none
  | some a :: r => (seqO r).map (a :: ·)
/-- plain data, to a depth -/
def datU (S : Store) : Nat → U → Option PySem.PyData
  | 0, u => match u with
    | .non => some .none
    | .bl b => some (.bool b)
    | .int i => some (.int i)
    | .str x => if PySem.PyData.strOk x then some (.str x) else none
    | _ => none
  | n + 1, u => match u with
    | .non => some .none
    | .bl b => some (.bool b)
    | .int i => some (.int i)
    | .str x => if PySem.PyData.strOk x then some (.str x) else none
    | .tup us => (seqO (us.map (datU S n))).map .tuple
    | .ref l => match S[l]? with
      | some (.lst us) => (seqO (us.map (datU S n))).map .list
      | some (.fz us) => (seqO (us.map (datU S n))).map .list
      | _ => none
    | _ => none
abbrev DEPTH : Nat := 20
def eqD (S : Store) (u w : U) : Option Bool := match datU S DEPTH u, datU S DEPTH w with
  | some d, some e => some (PySem.PyData.eqv d e)
  | _, _ => none
def eqU (S : Store) : U → U → Option Bool
  | .int i, .int j => some (decide (i = j))
  | .str x, .str y => some (decide (x = y))
  | .str _, .non => some false
  | .non, .str _ => some false
  | u, w => eqD S u w
/-- the items of a list or a tuple -/
def itemsU (S : Store) : U → Option (List U)
  | .tup us => some us
  | .ref l => match S[l]? with
    | some (.lst us) => some us
    | some (.fz us) => some us
    | _ => none
  | _ => none
def truU (S : Store) : U → Option Bool
  | .non => some false
  | .bl b => some b
  | .int i => some (i != 0)
  | .str x => if x.length ≤ LINE then some (x.length != 0) else none
  | .tup us => some (!us.isEmpty)
  | .ref l => match S[l]? with
    | some (.lst us) => some (!us.isEmpty)
    | some (.fz us) => some (!us.isEmpty)
    | some (.dct kvs) => some (!kvs.isEmpty)
    | _ => none
  | _ => none
def newC (c : Cell) (S : Store) : R U := .val (.ref S.length) (S ++ [c])
def newL (us : List U) (S : Store) : R U := if us.length ≤ LINE then newC (.lst us) S else .stuck
def binU : Bop → U → U → Store → R U
  | .add, .int i, .int j, S => .val (.int (i + j)) S
  | .add, .str x, .str y, S => if x.length + y.length ≤ LINE then .val (.str (x ++ y)) S else .stuck
  | .add, .tup us, .tup ws, S => if us.length + ws.length ≤ LINE then .val (.tup (us ++ ws)) S else .stuck
  | .add, .ref l, .ref k, S => match S[l]?, S[k]? with
    | some (.lst us), some (.lst ws) => newL (us ++ ws) S
    | _, _ => .stuck
  | .sub, .int i, .int j, S => .val (.int (i - j)) S
  | .mul, .int i, .int j, S => if i.natAbs < 18446744073709551616 ∨ j.natAbs < 18446744073709551616 then .val (.int (i * j)) S else .stuck
  | .mul, .ref l, .int k, S => match S[l]? with
    | some (.lst us) => if k.natAbs < 9223372036854775808 then newL (List.replicate k.toNat us).flatten S else .stuck
    | _ => .stuck
  | .fdiv, .int i, .int j, S => if 0 < j ∧ j < 18446744073709551616 then .val (.int (i / j)) S else .stuck
  | .mod, .int i, .int j, S => if 0 < j then .val (.int (i % j)) S else .stuck
  | .band, .int i, .int j, S => if j = 255 then .val (.int (i % 256)) S else .stuck
  | _, _, _, _ => .stuck
/-- flat values, and how they are compared -/
def flU : U → Bool
  | .non => true
  | .bl _ => true
  | .int _ => true
  | .str _ => true
  | _ => false
def eqF : U → U → Bool
  | .non, .non => true
  | .bl a, .bl b => a == b
  | .bl a, .int b => (if a then 1 else 0) == b
  | .int a, .bl b => a == (if b then 1 else 0)
  | .int a, .int b => a == b
  | .str a, .str b => a == b
  | _, _ => false
def memI (S : Store) (x y : U) : Option Bool := match itemsU S y with
  | some us => if flU x = true ∧ us.all flU = true then some (us.any fun z => eqF z x) else match y with
    | .ref _ => match datU S DEPTH x, datU S DEPTH y with
      | some d, some (.list ds) => some (ds.any fun z => PySem.PyData.eqv z d)
      | _, _ => none
    | _ => none
  | none => none
def memU (S : Store) : U → U → Option Bool
  | .str a, .str b => match a.cps.toList with
    | [c] => some (decide (c ∈ b.cps.toList))
    | _ => none
  | x, y => memI S x y
def keyU : U → Option Key
  | .int i => some (.i i)
  | .str x => some (.s x)
  | _ => none
def cmpU (S : Store) : Cop → U → U → Option Bool
  | .eq, x, y => eqU S x y
  | .ne, x, y => (eqU S x y).map (!·)
  | .lt, .int i, .int j => some (decide (i < j))
  | .le, .int i, .int j => some (decide (i ≤ j))
  | .gt, .int i, .int j => some (decide (j < i))
  | .ge, .int i, .int j => some (decide (j ≤ i))
  | .isN, .non, .non => some true
  | .isN, .fn _, _ => none
  | .isN, .ty _, _ => none
  | .isN, _, .non => some false
  | .notN, .non, .non => some false
  | .notN, .fn _, _ => none
  | .notN, .ty _, _ => none
  | .notN, _, .non => some true
  | .mem, x, y => memU S x y
  | .nmem, x, y => (memU S x y).map (!·)
  | .is, .bl a, .bl b => some (decide (a = b))
  | .isnot, .bl a, .bl b => some (!decide (a = b))
  | _, _, _ => none
/-- an index, of either sign -/
def atU {α : Type} (xs : List α) (i : Int) : Option α := if 0 ≤ i then (if i < xs.length then xs[i.toNat]? else none) else if -(xs.length : Int) ≤ i then xs[(i + xs.length).toNat]? else none
def ixU (S : Store) : U → U → Option U
  | .str x, .int i => if x.length ≤ LINE then (atU x.cps.toList i).map fun c => .str ⟨#[c]⟩ else none
  | .ref l, k => match S[l]? with
    | some (.lst us) => match k with
      | .int i => atU us i
      | _ => none
    | some (.fz us) => match k with
      | .int i => atU us i
      | _ => none
    | _ => none
  | .tup us, .int i => atU us i
  | _, _ => none
/-- an end of a slice, brought into the line -/
def sIxU (n d : Nat) : Option Int → Nat
  | none => d
  | some v => if v < 0 then (v + (n : Int)).toNat else min v.toNat n
def cutU {α : Type} (xs : List α) (lo hi : Option Int) : List α := (xs.drop (sIxU xs.length 0 lo)).take (sIxU xs.length xs.length hi - sIxU xs.length 0 lo)
def cutE (x : U) (lo hi : Option Int) (S : Store) : R U := match x with
  | .str x => if x.length ≤ LINE then .val (.str ⟨(cutU x.cps.toList lo hi).toArray⟩) S else .stuck
  | .tup us => .val (.tup (cutU us lo hi)) S
  | .ref l => match S[l]? with
    | some (.lst us) => newC (.lst (cutU us lo hi)) S
    | some (.fz us) => newC (.lst (cutU us lo hi)) S
    | _ => .stuck
  | _ => .stuck
def asInts : List U → Option (List Int)
  | [] => some []
  | .int i :: us => (asInts us).map (i :: ·)
  | _ :: _ => none
def asBls : List U → Option (List Bool)
  | [] => some []
  | .bl b :: us => (asBls us).map (b :: ·)
  | _ :: _ => none
def asStrs : List U → Option (List Str)
  | [] => some []
  | .str b :: us => (asStrs us).map (b :: ·)
  | _ :: _ => none
def sortI (ns : List Int) : List Int := ns.mergeSort (fun a b => decide (a ≤ b))
def lenU (S : Store) : U → Option Nat
  | .str x => if x.length ≤ LINE then some x.length else none
  | .tup us => some us.length
  | .ref l => match S[l]? with
    | some (.lst us) => some us.length
    | some (.fz us) => some us.length
    | some (.dct kvs) => some kvs.length
    | _ => none
  | _ => none
def isiU (S : Store) : U → Ty → Option Bool
  | .int _, .int => some true
  | .bl _, .int => some true
  | .str _, .int => some false
  | .non, .int => some false
  | .tup _, .int => some false
  | .bl _, .bool => some true
  | .int _, .bool => some false
  | .str _, .bool => some false
  | .non, .bool => some false
  | .tup _, .bool => some false
  | .str _, .str => some true
  | .int _, .str => some false
  | .non, .str => some false
  | .tup _, .str => some false
  | .bl _, .str => some false
  | .tup _, .tuple => some true
  | .int _, .tuple => some false
  | .str _, .tuple => some false
  | .non, .tuple => some false
  | .bl _, .tuple => some false
  | .tup _, .list => some false
  | .int _, .list => some false
  | .str _, .list => some false
  | .non, .list => some false
  | .bl _, .list => some false
  | .ref l, t => match S[l]?, t with
    | some (.lst _), .list => some true
    | some (.lst _), .int => some false
    | some (.lst _), .bool => some false
    | some (.lst _), .str => some false
    | some (.lst _), .tuple => some false
    | _, _ => none
  | _, _ => none
def biU : Bi → List U → Store → R U
  | .len, [x], S => ofO S ((lenU S x).map fun (n : Nat) => U.int (n : Int))
  | .int, [.int i], S => .val (.int i) S
  | .int, [.bl b], S => .val (.int (if b then 1 else 0)) S
  | .abs, [.int i], S => .val (.int (if i < 0 then -i else i)) S
  | .min, [.int i, .int j], S => .val (.int (if j < i then j else i)) S
  | .max, [.int i, .int j], S => .val (.int (if j > i then j else i)) S
  | .max, [.int i, .int j, .int k], S => .val (.int (if (if i < j then j else i) < k then k else (if i < j then j else i))) S
  | .minL, [.ref l], S => match ((itemsU S (.ref l)).bind asInts).bind List.min? with
    | some m => .val (.int m) S
    | none => .stuck
  | .sum, [.ref l], S => match (itemsU S (.ref l)).bind asInts with
    | some ns => .val (.int ns.sum) S
    | none => .stuck
  | .all, [.ref l], S => match (itemsU S (.ref l)).bind asBls with
    | some bs => .val (.bl (bs.all id)) S
    | none => .stuck
  | .any, [.ref l], S => match (itemsU S (.ref l)).bind asBls with
    | some bs => .val (.bl (bs.any id)) S
    | none => .stuck
  | .list, [x], S => match itemsU S x with
    | some us => newC (.lst us) S
    | none => .stuck
  | .tuple, [.tup us], S => .val (.tup us) S
  | .tuple, [.ref l], S => match itemsU S (.ref l) with
    | some us => .val (.tup us) S
    | none => .stuck
  | .sorted, [.ref l], S => match (itemsU S (.ref l)).bind asInts with
    | some ns => newC (.lst ((sortI ns).map .int)) S
    | none => .stuck
  | .isi t, [x], S => ofO S ((isiU S x t).map .bl)
  | .ord, [.str x], S => match x.cps.toList with
    | [c] => .val (.int c) S
    | _ => .stuck
  | .str, [.int i], S => if i.natAbs.log2 < 1920 then .val (.str (PySem.Str.ofString (toString i))) S else .stuck
  | _, _, _ => .stuck
/-- a method's receiver -/
def tyU (b : Bm) (S : Store) (x : U) : Bool := match b, x with
  | .append, .ref l => match S[l]? with
    | some (.lst _) => true
    | _ => false
  | .extend, .ref l => match S[l]? with
    | some (.lst _) => true
    | _ => false
  | .pop, .ref l => match S[l]? with
    | some (.lst _) => true
    | _ => false
  | .popAt, .ref l => match S[l]? with
    | some (.lst _) => true
    | _ => false
  | .insert, .ref l => match S[l]? with
    | some (.lst _) => true
    | _ => false
  | .index, .ref l => match S[l]? with
    | some (.lst _) => true
    | _ => false
  | .join, .str _ => true
  | _, _ => false
def bmU : Bm → U → List U → Store → R U
  | .append, .ref l, [u], S => match S[l]? with
    | some (.lst us) => if us.length < LINE then .val .non (S.set l (.lst (us ++ [u]))) else .stuck
    | _ => .stuck
  | .extend, .ref l, [.ref k], S => match S[l]?, S[k]? with
    | some (.lst us), some (.lst ws) => if us.length + ws.length ≤ LINE then .val .non (S.set l (.lst (us ++ ws))) else .stuck
    | _, _ => .stuck
  | .pop, .ref l, [], S => match S[l]? with
    | some (.lst us) => match us.getLast? with
      | some u => .val u (S.set l (.lst us.dropLast))
      | none => .stuck
    | _ => .stuck
  | .popAt, .ref l, [.int i], S => match S[l]? with
    | some (.lst us) => if 0 ≤ i ∧ i < 9223372036854775808 then (match us[i.toNat]? with
      | some u => .val u (S.set l (.lst (us.eraseIdx i.toNat)))
      | none => .stuck) else .stuck
    | _ => .stuck
  | .insert, .ref l, [.int i, u], S => match S[l]? with
    | some (.lst us) => if us.length < LINE ∧ 0 ≤ i ∧ i < 9223372036854775808 then .val .non (S.set l (.lst (us.take i.toNat ++ [u] ++ us.drop i.toNat))) else .stuck
    | _ => .stuck
  | .index, .ref l, [u], S => match S[l]? with
    | some (.lst us) => if flU u = true ∧ us.all flU = true then (match us.findIdx? (fun z => eqF z u) with
      | some j => .val (.int (j : Int)) S
      | none => .stuck) else .stuck
    | _ => .stuck
  | .join, .str a, [.ref l], S => match (itemsU S (.ref l)).bind asStrs with
    | some ys => if (ys.map (·.length)).sum + ys.length * a.length ≤ LINE then .val (.str (PySem.Builtin.Str.glued a ys)) S else .stuck
    | none => .stuck
  | _, _, _, _ => .stuck

/-! ### names, loops -/
def bindT : Tg → U → Env → Option Env
  | .nm i, u, env => some (env.set i (some u))
  | .tp ts, .tup us, env => if ts.length = us.length then some ((ts.zip us).foldl (fun e p => e.set p.1 (some p.2)) env) else none
  | _, _, _ => none
def wipeU (env : Env) : List Nat → Env
  | [] => env
  | v :: vs => (wipeU env vs).set v none
/-- what a loop walks: the items, and the lists that have to stay as they are -/
structure Sq where
  items : List U
  watch : List (Nat × List U)
open Classical in
noncomputable def okW (w : List (Nat × List U)) (S : Store) : Bool := w.all fun p => decide (itemsU S (.ref p.1) = some p.2)
noncomputable def loopF (t : Tg) (b : Env → Store → Out) (w : List (Nat × List U)) : List U → Env → Store → Out
  | [], env, S => if okW w S then .nx env S else .stuck
  | u :: us, env, S => if okW w S then (match bindT t u env with
    | none => .stuck
    | some env1 => match b env1 S with
      | .nx e S1 => loopF t b w us e S1
      | .ct e S1 => loopF t b w us e S1
      | .bk e S1 => .nx e S1
      | o => o) else .stuck
def loopW (c : Env → Store → R Bool) (b : Env → Store → Out) : Nat → Env → Store → Out
  | 0, _, _ => .stuck
  | n + 1, env, S => (c env S).out env fun k S1 => if k then (match b env S1 with
      | .nx e S2 => loopW c b n e S2
      | .ct e S2 => loopW c b n e S2
      | .bk e S2 => .nx e S2
      | o => o) else .nx env S1
/-- a comprehension's list grows at l -/
noncomputable def loopC (t : Tg) (own : List Nat) (c : Env → Store → R Bool) (e : Env → Store → R U) (l : Nat) (w : List (Nat × List U)) (env : Env) : List U → Store → R Unit
  | [], S => if okW w S then .val () S else .stuck
  | u :: us, S => if okW w S then (match bindT t u (wipeU env own) with
    | none => .stuck
    | some env1 => (c env1 S).bind fun k S1 => if k then (e env1 S1).bind fun y S2 => (match S2[l]? with
        | some (.lst acc) => if acc.length < LINE then loopC t own c e l w env us (S2.set l (.lst (acc ++ [y]))) else .stuck
        | _ => .stuck) else loopC t own c e l w env us S1) else .stuck
/-- the outer loop of two -/
noncomputable def loopG (t : Tg) (own : List Nat) (b : Env → Store → R Unit) (w : List (Nat × List U)) (env : Env) : List U → Store → R Unit
  | [], S => if okW w S then .val () S else .stuck
  | u :: us, S => if okW w S then (match bindT t u (wipeU env own) with
    | none => .stuck
    | some env1 => (b env1 S).bind fun _ S1 => loopG t own b w env us S1) else .stuck
def sqU (S : Store) (x : U) : Option Sq := match x with
  | .tup us => some ⟨us, []⟩
  | .ref l => match S[l]? with
    | some (.lst us) => some ⟨us, [(l, us)]⟩
    | some (.fz us) => some ⟨us, [(l, us)]⟩
    | _ => none
  | _ => none
/-- a text too -/
def sqS (S : Store) (x : U) : Option Sq := match x with
  | .str x => some ⟨x.cps.toList.map fun c => .str ⟨#[c]⟩, []⟩
  | x => sqU S x
def noX {α : Type} : R α → R α
  | .val a S => .val a S
  | _ => .stuck

/-! ### the machine -/
@[simp] def tru (S : Store) (u : U) : R Bool := ofO S (truU S u)
variable (P : Pg) (cf : Nat → List U → Store → R U)
mutual
@[simp] noncomputable def ev : E → Env → Store → R U
  | .var i, env, S => match env[i]? with
    | some (some u) => .val u S
    | _ => .stuck
  | .int i, _, S => .val (.int i) S
  | .str s, _, S => .val (.str s) S
  | .bl b, _, S => .val (.bl b) S
  | .non, _, S => .val .non S
  | .glo g, _, S => ofO S P.glo[g]?
  | .fnv f, _, S => .val (.fn f) S
  | .bin o a b, env, S => (ev a env S).bind fun x S => (ev b env S).bind fun y S => binU o x y S
  | .neg a, env, S => (ev a env S).bind fun x S => match x with
    | .int i => .val (.int (-i)) S
    | _ => .stuck
  | .cmp o a b, env, S => (ev a env S).bind fun x S => (ev b env S).bind fun y S => ofO S ((cmpU S o x y).map .bl)
  | .cmp2 o p a b c, env, S => (ev a env S).bind fun x S => (ev b env S).bind fun y S => match cmpU S o x y with
    | some true => (ev c env S).bind fun z S => ofO S ((cmpU S p y z).map .bl)
    | some false => .val (.bl false) S
    | none => .stuck
  | .and a b, env, S => (ev a env S).bind fun x S => match truU S x with
    | some true => ev b env S
    | some false => .val x S
    | none => .stuck
  | .or a b, env, S => (ev a env S).bind fun x S => match truU S x with
    | some true => .val x S
    | some false => ev b env S
    | none => .stuck
  | .not a, env, S => (ev a env S).bind fun x S => ofO S ((truU S x).map fun b => .bl (!b))
  | .ife c a b, env, S => (ev c env S).bind fun x S => match truU S x with
    | some true => ev a env S
    | some false => ev b env S
    | none => .stuck
  | .tup es, env, S => (evs es env S).bind fun us S => if us.length ≤ LINE then .val (.tup us) S else .stuck
  | .lst es, env, S => (evs es env S).bind fun us S => newL us S
  | .ix a b, env, S => (ev a env S).bind fun x S => (ev b env S).bind fun y S => ofO S (ixU S x y)
  | .cut a lo hi, env, S => (ev a env S).bind fun x S => (evo lo env S).bind fun i S => (evo hi env S).bind fun j S => cutE x i j S
  | .fld a f, env, S => (ev a env S).bind fun x S => match x with
    | .ref l => match S[l]? with
      | some (.ins _ fs) => ofO S (fs.lookup f)
      | _ => .stuck
    | _ => .stuck
  | .call f es, env, S => (evs es env S).bind fun us S => cf f us S
  | .callv x es, env, S => match env[x]? with
    | some (some (.fn f)) => (evs es env S).bind fun us S => cf f us S
    | _ => .stuck
  | .meth m o es, env, S => (ev o env S).bind fun x S => match x with
    | .ref l => match S[l]? with
      | some (.ins c fs) => match P.meths.lookup (c, m), fs.lookup m with
        | some f, none => (evs es env S).bind fun us S => cf f (x :: us) S
        | _, _ => .stuck
      | _ => .stuck
    | _ => .stuck
  | .mk c es, env, S => (evs es env S).bind fun us S => match P.inits.lookup c with
    | some f => (cf f (.ref S.length :: us) (S ++ [.ins c []])).bind fun _ S1 => .val (.ref S.length) S1
    | none => .stuck
  | .bi b es, env, S => (evs es env S).bind fun us S => biU b us S
  | .bm b o es, env, S => (ev o env S).bind fun x S => if tyU b S x then (evs es env S).bind fun us S => bmU b x us S else .stuck
  | .comp own t it c e, env, S => (evi it env S).bind fun q S => (noX (loopC t own (evc c) (ev e) S.length q.watch env q.items (S ++ [.lst []]))).bind fun _ S1 => .val (.ref S.length) S1
  | .comp2 own t it c own1 t1 it1 c1 e, env, S => (evi it env S).bind fun q S => (noX (loopG t own (fun env1 S1 => (evc c env1 S1).bind fun k S1 => if k then (evi it1 env1 S1).bind fun q1 S2 => loopC t1 own1 (evc c1) (ev e) S.length q1.watch env1 q1.items S2 else .val () S1) q.watch env q.items (S ++ [.lst []]))).bind fun _ S1 => .val (.ref S.length) S1
  | .dict0, _, S => newC (.dct []) S
@[simp] noncomputable def evs : Es → Env → Store → R (List U)
  | .nil, _, S => .val [] S
  | .cons e r, env, S => (ev e env S).bind fun u S => (evs r env S).bind fun us S => .val (u :: us) S
/-- a part of a slice -/
@[simp] noncomputable def evo : Eo → Env → Store → R (Option Int)
  | .none, _, S => .val none S
  | .some e, env, S => (ev e env S).bind fun x S => match x with
    | .int i => .val (some i) S
    | _ => .stuck
/-- a comprehension's test -/
@[simp] noncomputable def evc : Eo → Env → Store → R Bool
  | .none, _, S => .val true S
  | .some e, env, S => (ev e env S).bind fun x S => tru S x
@[simp] noncomputable def evi : It → Env → Store → R Sq
  | .seq e, env, S => (ev e env S).bind fun x S => ofO S (sqS S x)
  | .rng1 e, env, S => (ev e env S).bind fun x S => match x with
    | .int n => if n.natAbs < 4611686018427387904 then .val ⟨(List.range n.toNat).map fun (k : Nat) => U.int k, []⟩ S else .stuck
    | _ => .stuck
  | .rng2 a b, env, S => (ev a env S).bind fun x S => (ev b env S).bind fun y S => match x, y with
    | .int i, .int j => if i.natAbs < 4611686018427387904 ∧ j.natAbs < 4611686018427387904 then .val ⟨(List.range (j - i).toNat).map fun (k : Nat) => U.int (i + k), []⟩ S else .stuck
    | _, _ => .stuck
  | .enum e, env, S => (ev e env S).bind fun x S => match sqU S x, x with
    | some q, .ref _ => .val ⟨q.items.zipIdx.map fun p => .tup [.int p.2, p.1], q.watch⟩ S
    | _, _ => .stuck
  | .zip a b, env, S => (ev a env S).bind fun x S => (ev b env S).bind fun y S => match sqU S x, sqU S y, x, y with
    | some q, some p, .ref _, .ref _ => if q.items.length = p.items.length then .val ⟨(q.items.zip p.items).map fun z => .tup [z.1, z.2], q.watch ++ p.watch⟩ S else .stuck
    | _, _, _, _ => .stuck
  | .rev e, env, S => (ev e env S).bind fun x S => match sqU S x with
    | some q => .val ⟨q.items.reverse, q.watch⟩ S
    | none => .stuck
  | .chars e, env, S => (ev e env S).bind fun x S => match x with
    | .str x => .val ⟨x.cps.toList.map fun c => .str ⟨#[c]⟩, []⟩ S
    | _ => .stuck
end
/-- an expression as a test -/
@[simp] noncomputable def evt (e : E) (env : Env) (S : Store) : R Bool := (ev P cf e env S).bind fun x S => tru S x
def putU (f : Nat) (u : U) : List (Nat × U) → List (Nat × U)
  | [] => [(f, u)]
  | (g, w) :: r => if g = f then (f, u) :: r else (g, w) :: putU f u r
def putK (k : Key) (u : U) : List (Key × U) → List (Key × U)
  | [] => [(k, u)]
  | (g, w) :: r => if g = k then (g, u) :: r else (g, w) :: putK k u r
def setfU (x : U) (f : Nat) (u : U) (S : Store) : Option Store := match x with
  | .ref l => match S[l]? with
    | some (.ins c fs) => if fs.length < 1000 then some (S.set l (.ins c (putU f u fs))) else none
    | _ => none
  | _ => none
def setiU (x i u : U) (S : Store) : Option Store := match x with
  | .ref l => match S[l]? with
    | some (.lst us) => match i with
      | .int k => if 0 ≤ k then (if k < us.length then some (S.set l (.lst (us.set k.toNat u))) else none)
        else if -(us.length : Int) ≤ k then some (S.set l (.lst (us.set (k + us.length).toNat u))) else none
      | _ => none
    | _ => none
  | _ => none
/-- a handler that raises nothing -/
def noXo : Out → Out
  | .exc _ _ _ _ => .stuck
  | o => o
def nxO (env : Env) : Option Store → Out
  | some S => .nx env S
  | none => .stuck
variable (fuel : Nat)
mutual
@[simp] noncomputable def ex : St → Env → Store → Out
  | .asg t e, env, S => (ev P cf e env S).out env fun x S => match bindT t x env with
    | some env1 => .nx env1 S
    | none => .stuck
  | .setf o f e, env, S => (ev P cf e env S).out env fun u S => (ev P cf o env S).out env fun x S => nxO env (setfU x f u S)
  | .seti o i e, env, S => (ev P cf e env S).out env fun u S => (ev P cf o env S).out env fun x S => (ev P cf i env S).out env fun k S => nxO env (setiU x k u S)
  | .aug i o e, env, S => match env[i]? with
    | some (some x) => (ev P cf e env S).out env fun y S => match o, x, y with
      | .add, .int a, .int b => .nx (env.set i (some (.int (a + b)))) S
      | .sub, .int a, .int b => .nx (env.set i (some (.int (a - b)))) S
      | _, _, _ => .stuck
    | _ => .stuck
  | .augf o f p e, env, S => (ev P cf o env S).out env fun x S => match x with
    | .ref l => match S[l]? with
      | some (.ins _ fs) => match fs.lookup f with
        | some v => (ev P cf e env S).out env fun y S => match p, v, y with
          | .add, .int a, .int b => nxO env (setfU x f (.int (a + b)) S)
          | .sub, .int a, .int b => nxO env (setfU x f (.int (a - b)) S)
          | _, _, _ => .stuck
        | none => .stuck
      | _ => .stuck
    | _ => .stuck
  | .exp e, env, S => (ev P cf e env S).out env fun _ S => .nx env S
  | .ret e, env, S => (ev P cf e env S).out env fun u S => .rt u S
  | .retN, _, S => .rt .non S
  | .ifS c a b, env, S => (evt P cf c env S).out env fun k S => if k then exs a env S else exs b env S
  | .whl c b, env, S => loopW (evt P cf c) (exs b) fuel env S
  | .for_ t it b, env, S => (evi P cf it env S).out env fun q S => loopF t (exs b) q.watch q.items env S
  | .brk, env, S => .bk env S
  | .cnt, env, S => .ct env S
  | .pass, env, S => .nx env S
  | .raise c es, env, S => match P.inits.lookup c with
    | some f => (evs P cf es env S).out env fun us S => (cf f (.ref S.length :: us) (S ++ [.xd []])).out env fun _ S1 => .exc c (some S.length) env S1
    | none => .exc c none env S
  | .tryM b hs, env, S => match exs b env S with
    | .exc x d env1 S1 => match P.excs.lookup x with
      | some as => exh hs as x d env1 S1
      | none => .stuck
    | o => o
  | .tryAs b c i h, env, S => match exs b env S with
    | .exc x d env1 S1 => match P.excs.lookup x with
      | some as => if c ∈ as then (match d with
          | some l => exs h (env1.set i (some (.ref l))) S1
          | none => .stuck) else .exc x d env1 S1
      | none => .stuck
    | o => o
  | .del o i, env, S => .stuck
@[simp] noncomputable def exs : Sts → Env → Store → Out
  | .nil, env, S => .nx env S
  | .cons s r, env, S => match ex s env S with
    | .nx env1 S1 => exs r env1 S1
    | o => o
@[simp] noncomputable def exh : Hs → List Nat → Nat → Option Nat → Env → Store → Out
  | .nil, _, x, d, env, S => .exc x d env S
  | .cons c h r, as, x, d, env, S => if c ∈ as then noXo (exs h env S) else exh r as x d env S
end
/-- a function called: what its body hands back -/
def fin : Out → R U
  | .rt u S => .val u S
  | .nx _ S => .val .non S
  | .exc c d _ S => .exc c d S
  | _ => .stuck
noncomputable def callN : Nat → Nat → List U → Store → R U
  | 0, _, _, _ => .stuck
  | k + 1, f, us, S => match P.fns[f]? with
    | some fn => if us.length = fn.np then fin (exs P (callN k) fuel fn.body (us.map some ++ List.replicate (fn.nl - fn.np) none) S) else .stuck
    | none => .stuck
end PyI
set_option Elab.async false
set_option linter.all false
set_option autoImplicit false
set_option maxRecDepth 100000
set_option maxHeartbeats 2000000
/-! The small machine against the model: what stands where, what is kept. -/
namespace PyI
open PySem L2

/-- addresses of the program's own things, its words -/
structure Wd where
  K : PySem.W.Frag
  nm : List PySem.Str
  fA : Nat → Addr
  cA : Nat → Addr

mutual
inductive RelU (D : Wd) (φ : List Addr) (H : Hp) : U → V → Prop where
  | non : RelU D φ H .non .non
  | bl (b : Bool) : RelU D φ H (.bl b) (.bl b)
  | int (i : Int) : RelU D φ H (.int i) (.int i)
  | str (x : PySem.Str) : RelU D φ H (.str x) (.str x)
  | tup {us : List U} {vs : List V} {a : Addr} : SqT D.K H a vs → RelUs D φ H us vs → RelU D φ H (.tup us) (.ref a)
  | ref {l : Nat} {a : Addr} : φ[l]? = some a → RelU D φ H (.ref l) (.ref a)
  | fn (f : Nat) : RelU D φ H (.fn f) (.ref (D.fA f))
inductive RelUs (D : Wd) (φ : List Addr) (H : Hp) : List U → List V → Prop where
  | nil : RelUs D φ H [] []
  | cons {u : U} {v : V} {us : List U} {vs : List V} : RelU D φ H u v → RelUs D φ H us vs → RelUs D φ H (u :: us) (v :: vs)
end

/-- tuples stay -/
def Tm (D : Wd) (H H' : Hp) : Prop := ∀ a xs, SqT D.K H a xs → SqT D.K H' a xs
theorem Tm.refl (D : Wd) (H : Hp) : Tm D H H := fun _ _ h => h
theorem Tm.trans {D : Wd} {H H1 H2 : Hp} (a : Tm D H H1) (b : Tm D H1 H2) : Tm D H H2 := fun x xs h => b x xs (a x xs h)
theorem Tm.new {D : Wd} {H : Hp} {p : Addr} {o : HO} (hp : H p = none) : Tm D H (upd H p o) := fun a xs h => by
  rcases h with (h | ⟨q, h⟩) | h
  · exact .inl (.inl (by rw [upd_ne (ne_of_none h hp)]; exact h))
  · exact .inl (.inr ⟨q, by rw [upd_ne (ne_of_none h hp)]; exact h⟩)
  · exact .inr h
/-- what may be overwritten -/
def soft : HO → Bool
  | .lst _ => true
  | .dK _ => true
  | .ins _ _ _ => true
  | .xd _ => true
  | _ => false
theorem Tm.set {D : Wd} {H : Hp} {p : Addr} {o o' : HO} (hp : H p = some o) (hs : soft o = true) : Tm D H (upd H p o') := fun a xs h => by
  rcases h with (h | ⟨q, h⟩) | h
  · exact .inl (.inl (by rw [upd_ne (ne_of h hp (by intro z; subst z; cases hs))]; exact h))
  · exact .inl (.inr ⟨q, by rw [upd_ne (ne_of h hp (by intro z; subst z; cases hs))]; exact h⟩)
  · exact .inr h

section
variable {D : Wd} {φ φ' : List Addr} {H H' : Hp}
theorem pre_at {α : Type} {xs ys : List α} (h : xs <+: ys) {l : Nat} {a : α} (e : xs[l]? = some a) : ys[l]? = some a := by
  obtain ⟨t, rfl⟩ := h
  have hl := (List.getElem?_eq_some_iff.mp e).1
  rw [List.getElem?_append_left hl]
  exact e
mutual
theorem RelU.mono (hp : φ <+: φ') (ht : Tm D H H') : ∀ {u : U} {v : V}, RelU D φ H u v → RelU D φ' H' u v
  | _, _, .non => .non
  | _, _, .bl b => .bl b
  | _, _, .int i => .int i
  | _, _, .str x => .str x
  | _, _, .tup s r => .tup (ht _ _ s) (RelUs.mono hp ht r)
  | _, _, .ref e => .ref (pre_at hp e)
  | _, _, .fn f => .fn f
theorem RelUs.mono (hp : φ <+: φ') (ht : Tm D H H') : ∀ {us : List U} {vs : List V}, RelUs D φ H us vs → RelUs D φ' H' us vs
  | _, _, .nil => .nil
  | _, _, .cons a r => .cons (RelU.mono hp ht a) (RelUs.mono hp ht r)
end
theorem RelUs.len : ∀ {us : List U} {vs : List V}, RelUs D φ H us vs → us.length = vs.length
  | _, _, .nil => rfl
  | _, _, .cons _ r => congrArg (· + 1) r.len
theorem RelUs.app : ∀ {us ws : List U} {vs ys : List V}, RelUs D φ H us vs → RelUs D φ H ws ys → RelUs D φ H (us ++ ws) (vs ++ ys)
  | _, _, _, _, .nil, s => s
  | _, _, _, _, .cons a r, s => .cons a (RelUs.app r s)
theorem RelUs.at : ∀ {us : List U} {vs : List V} {i : Nat} {u : U}, RelUs D φ H us vs → us[i]? = some u → ∃ v, vs[i]? = some v ∧ RelU D φ H u v
  | _, _, _, _, .nil, e => by simp at e
  | _, _, 0, _, .cons a r, e => by
    simp at e; subst e; exact ⟨_, rfl, a⟩
  | _, _, i + 1, u, .cons a r, e => by
    obtain ⟨v, h1, h2⟩ := RelUs.at (i := i) (u := u) r (by simpa using e)
    exact ⟨v, by simpa using h1, h2⟩
theorem RelUs.at' : ∀ {us : List U} {vs : List V} {i : Nat} {v : V}, RelUs D φ H us vs → vs[i]? = some v → ∃ u, us[i]? = some u ∧ RelU D φ H u v
  | _, _, _, _, .nil, e => by simp at e
  | _, _, 0, _, .cons a r, e => by
    simp at e; subst e; exact ⟨_, rfl, a⟩
  | _, _, i + 1, v, .cons a r, e => by
    obtain ⟨u, h1, h2⟩ := RelUs.at' (i := i) (v := v) r (by simpa using e)
    exact ⟨u, by simpa using h1, h2⟩
theorem RelUs.take : ∀ {us : List U} {vs : List V} (n : Nat), RelUs D φ H us vs → RelUs D φ H (us.take n) (vs.take n)
  | _, _, 0, _ => .nil
  | _, _, _ + 1, .nil => .nil
  | _, _, n + 1, .cons a r => .cons a (RelUs.take n r)
theorem RelUs.drop : ∀ {us : List U} {vs : List V} (n : Nat), RelUs D φ H us vs → RelUs D φ H (us.drop n) (vs.drop n)
  | _, _, 0, r => r
  | _, _, _ + 1, .nil => .nil
  | _, _, n + 1, .cons _ r => RelUs.drop n r
theorem RelUs.set {u : U} {v : V} (a : RelU D φ H u v) : ∀ {us : List U} {vs : List V} (n : Nat), RelUs D φ H us vs → RelUs D φ H (us.set n u) (vs.set n v)
  | _, _, _, .nil => .nil
  | _, _, 0, .cons _ r => .cons a r
  | _, _, n + 1, .cons b r => .cons b (RelUs.set a n r)
theorem RelUs.rev {us : List U} {vs : List V} (r : RelUs D φ H us vs) : RelUs D φ H us.reverse vs.reverse := by
  induction us generalizing vs with
  | nil => cases r; exact .nil
  | cons u us ih =>
    cases r with
    | cons a r =>
      rw [List.reverse_cons, List.reverse_cons]
      exact (ih r).app (.cons a .nil)
theorem RelUs.rep {us : List U} {vs : List V} (r : RelUs D φ H us vs) : ∀ k : Nat, RelUs D φ H (List.replicate k us).flatten (List.replicate k vs).flatten
  | 0 => .nil
  | k + 1 => by
    rw [List.replicate_succ, List.replicate_succ, List.flatten_cons, List.flatten_cons]
    exact r.app (RelUs.rep r k)
theorem RelUs.erase {us : List U} {vs : List V} (r : RelUs D φ H us vs) (n : Nat) : RelUs D φ H (us.eraseIdx n) (vs.eraseIdx n) := by
  rw [List.eraseIdx_eq_take_drop_succ, List.eraseIdx_eq_take_drop_succ]
  exact (r.take n).app (r.drop (n + 1))
theorem RelUs.dropLast {us : List U} {vs : List V} (r : RelUs D φ H us vs) : RelUs D φ H us.dropLast vs.dropLast := by
  rw [List.dropLast_eq_take, List.dropLast_eq_take, r.len]
  exact r.take _
theorem RelUs.ints {vs : List V} : ∀ {us : List U} {ns : List Int}, RelUs D φ H us vs → asInts us = some ns → vs = ns.map V.int ∧ us = ns.map U.int := by
  intro us
  induction us generalizing vs with
  | nil => intro ns r e; cases r; cases e; exact ⟨rfl, rfl⟩
  | cons u us ih =>
    intro ns r e
    cases r with
    | cons a r =>
      cases u with
      | int i =>
        cases a
        unfold asInts at e
        cases q : asInts us with
        | none => rw [q] at e; cases e
        | some ms =>
          rw [q] at e; cases e
          obtain ⟨h1, h2⟩ := ih r q
          exact ⟨by rw [h1]; rfl, by rw [h2]; rfl⟩
      | _ => cases e
theorem RelUs.bls {vs : List V} : ∀ {us : List U} {ns : List Bool}, RelUs D φ H us vs → asBls us = some ns → vs = ns.map V.bl := by
  intro us
  induction us generalizing vs with
  | nil => intro ns r e; cases r; cases e; rfl
  | cons u us ih =>
    intro ns r e
    cases r with
    | cons a r =>
      cases u with
      | bl i =>
        cases a
        unfold asBls at e
        cases q : asBls us with
        | none => rw [q] at e; cases e
        | some ms =>
          rw [q] at e; cases e
          rw [ih r q]; rfl
      | _ => cases e
theorem RelUs.strs {vs : List V} : ∀ {us : List U} {ns : List PySem.Str}, RelUs D φ H us vs → asStrs us = some ns → vs = ns.map V.str := by
  intro us
  induction us generalizing vs with
  | nil => intro ns r e; cases r; cases e; rfl
  | cons u us ih =>
    intro ns r e
    cases r with
    | cons a r =>
      cases u with
      | str i =>
        cases a
        unfold asStrs at e
        cases q : asStrs us with
        | none => rw [q] at e; cases e
        | some ms =>
          rw [q] at e; cases e
          rw [ih r q]; rfl
      | _ => cases e
theorem RelUs.ofInts (ns : List Int) : RelUs D φ H (ns.map U.int) (ns.map V.int) := by
  induction ns with
  | nil => exact .nil
  | cons n ns ih => exact .cons (.int n) ih

/-! ### fields, keys, cells -/
inductive RelF (D : Wd) (φ : List Addr) (H : Hp) : List (Nat × U) → List (PySem.Str × V) → Prop where
  | nil : RelF D φ H [] []
  | cons {f : Nat} {x : PySem.Str} {u : U} {v : V} {fs : List (Nat × U)} {gs : List (PySem.Str × V)} : D.nm[f]? = some x → RelU D φ H u v → RelF D φ H fs gs → RelF D φ H ((f, u) :: fs) ((x, v) :: gs)
def keyK : Key → L2.Key
  | .i k => .inl k
  | .s x => .inr x
theorem keyK_inj {a b : Key} (h : keyK a = keyK b) : a = b := by
  cases a <;> cases b <;> simp [keyK] at h <;> rw [h]
inductive RelK (D : Wd) (φ : List Addr) (H : Hp) : List (Key × U) → List (L2.Key × V) → Prop where
  | nil : RelK D φ H [] []
  | cons {k : Key} {u : U} {v : V} {fs : List (Key × U)} {gs : List (L2.Key × V)} : RelU D φ H u v → RelK D φ H fs gs → RelK D φ H ((k, u) :: fs) ((keyK k, v) :: gs)
theorem RelF.mono (hp : φ <+: φ') (ht : Tm D H H') : ∀ {fs : List (Nat × U)} {gs : List (PySem.Str × V)}, RelF D φ H fs gs → RelF D φ' H' fs gs
  | _, _, .nil => .nil
  | _, _, .cons e a r => .cons e (a.mono hp ht) (RelF.mono hp ht r)
theorem RelK.mono (hp : φ <+: φ') (ht : Tm D H H') : ∀ {fs : List (Key × U)} {gs : List (L2.Key × V)}, RelK D φ H fs gs → RelK D φ' H' fs gs
  | _, _, .nil => .nil
  | _, _, .cons a r => .cons (a.mono hp ht) (RelK.mono hp ht r)
theorem RelF.len : ∀ {fs : List (Nat × U)} {gs : List (PySem.Str × V)}, RelF D φ H fs gs → fs.length = gs.length
  | _, _, .nil => rfl
  | _, _, .cons _ _ r => congrArg (· + 1) r.len
theorem RelK.len : ∀ {fs : List (Key × U)} {gs : List (L2.Key × V)}, RelK D φ H fs gs → fs.length = gs.length
  | _, _, .nil => rfl
  | _, _, .cons _ r => congrArg (· + 1) r.len
theorem nm_inj (nd : D.nm.Nodup) {f g : Nat} {x : PySem.Str} (a : D.nm[f]? = some x) (b : D.nm[g]? = some x) : f = g := nodup_ix nd a b
theorem RelF.look (nd : D.nm.Nodup) {f : Nat} {x : PySem.Str} (hx : D.nm[f]? = some x) : ∀ {fs : List (Nat × U)} {gs : List (PySem.Str × V)}, RelF D φ H fs gs →
    (∀ u, fs.lookup f = some u → ∃ v, gs.lookup x = some v ∧ RelU D φ H u v) ∧ (fs.lookup f = none → gs.lookup x = none)
  | _, _, .nil => ⟨fun u h => (by cases h), fun _ => rfl⟩
  | _, _, .cons (f := g) (x := y) (u := u) (v := v) (fs := fs) (gs := gs) e a r => by
    obtain ⟨h1, h2⟩ := RelF.look nd hx r
    by_cases q : f = g
    · subst q
      rw [hx] at e; cases e
      rw [List.lookup_cons, List.lookup_cons]
      simp only [beq_self_eq_true]
      exact ⟨fun w hw => ⟨v, rfl, by cases hw; exact a⟩, fun hw => by cases hw⟩
    · have q2 : x ≠ y := fun z => q (nm_inj nd hx (z ▸ e))
      rw [List.lookup_cons, List.lookup_cons, beq_eq_false_iff_ne.mpr q, beq_eq_false_iff_ne.mpr q2]
      exact ⟨h1, h2⟩
theorem RelF.put (nd : D.nm.Nodup) {f : Nat} {x : PySem.Str} (hx : D.nm[f]? = some x) {u : U} {v : V} (a : RelU D φ H u v) : ∀ {fs : List (Nat × U)} {gs : List (PySem.Str × V)}, RelF D φ H fs gs → RelF D φ H (putU f u fs) (putF x v gs)
  | _, _, .nil => .cons hx a .nil
  | _, _, .cons (f := g) (x := y) (u := u1) (v := v1) (fs := fs) (gs := gs) e b r => by
    have ih := RelF.put nd hx a r
    unfold putU putF
    by_cases q : g = f
    · subst q
      rw [hx] at e; cases e
      simp only [if_true, beq_self_eq_true]
      exact .cons hx a r
    · have q2 : y ≠ x := fun z => q (nm_inj nd e (z ▸ hx))
      rw [if_neg q]
      first
        | rw [if_neg q2]
        | simp only [beq_eq_false_iff_ne.mpr q2, Bool.false_eq_true, if_false]
      exact .cons e b ih

def trk : Cell → Bool
  | .fz _ => false
  | _ => true
/-- a list of the written part -/
def KL (K : PySem.W.Frag) (a : Addr) (vs : List V) : Prop := ∀ H : Hp, SqL K H a vs
def CellOk (D : Wd) (φ : List Addr) (H : Hp) (a : Addr) : Cell → Prop
  | .lst us => ∃ vs, H a = some (.lst vs) ∧ RelUs D φ H us vs
  | .fz us => ∃ vs, ((∃ o, H a = some (.frz o (.lst vs))) ∨ KL D.K a vs) ∧ RelUs D φ H us vs
  | .ins c fs => ∃ dx gs, H a = some (.ins (D.cA c) dx gs) ∧ RelF D φ H fs gs
  | .dct kvs => ∃ gs, H a = some (.dK gs) ∧ RelK D φ H kvs gs
  | .xd fs => ∃ gs, H a = some (.xd gs) ∧ RelF D φ H fs gs
structure Sim (D : Wd) (φ : List Addr) (S : Store) (H : Hp) : Prop where
  len : φ.length = S.length
  cell : ∀ (l : Nat) (c : Cell) (a : Addr), S[l]? = some c → φ[l]? = some a → CellOk D φ H a c
  inj : ∀ (l k : Nat) (c d : Cell) (a : Addr), S[l]? = some c → S[k]? = some d → trk c = true → trk d = true → φ[l]? = some a → φ[k]? = some a → l = k
theorem CellOk.soft {a : Addr} {c : Cell} (h : CellOk D φ H a c) (t : trk c = true) : ∃ o, H a = some o ∧ soft o = true := by
  cases c with
  | lst us => obtain ⟨vs, e, _⟩ := h; exact ⟨_, e, rfl⟩
  | fz us => cases t
  | ins c fs => obtain ⟨dx, gs, e, _⟩ := h; exact ⟨_, e, rfl⟩
  | dct kvs => obtain ⟨gs, e, _⟩ := h; exact ⟨_, e, rfl⟩
  | xd fs => obtain ⟨gs, e, _⟩ := h; exact ⟨_, e, rfl⟩
/-- a cell's description at another heap -/
theorem CellOk.mono {a : Addr} {c : Cell} (h : CellOk D φ H a c) (hp : φ <+: φ') (ht : Tm D H H') (hk : trk c = true → H' a = H a) (hf : ∀ o u, H a = some (.frz o u) → H' a = some (.frz o u)) : CellOk D φ' H' a c := by
  cases c with
  | lst us => obtain ⟨vs, e, r⟩ := h; exact ⟨vs, (hk rfl).trans e, r.mono hp ht⟩
  | fz us =>
    obtain ⟨vs, e, r⟩ := h
    refine ⟨vs, ?_, r.mono hp ht⟩
    rcases e with ⟨o, e⟩ | e
    · exact .inl ⟨o, hf _ _ e⟩
    · exact .inr e
  | ins c fs => obtain ⟨dx, gs, e, r⟩ := h; exact ⟨dx, gs, (hk rfl).trans e, r.mono hp ht⟩
  | dct kvs => obtain ⟨gs, e, r⟩ := h; exact ⟨gs, (hk rfl).trans e, r.mono hp ht⟩
  | xd fs => obtain ⟨gs, e, r⟩ := h; exact ⟨gs, (hk rfl).trans e, r.mono hp ht⟩
theorem Sim.at {S : Store} (g : Sim D φ S H) {l : Nat} {c : Cell} (e : S[l]? = some c) : ∃ a, φ[l]? = some a ∧ CellOk D φ H a c := by
  have hl : l < φ.length := by rw [g.len]; exact (List.getElem?_eq_some_iff.mp e).1
  exact ⟨φ[l], List.getElem?_eq_getElem hl, g.cell l c _ e (List.getElem?_eq_getElem hl)⟩
/-- a new cell -/
theorem Sim.new {S : Store} (g : Sim D φ S H) {p : Addr} {o : HO} {c : Cell} (hp : H p = none) (hc : CellOk D (φ ++ [p]) (upd H p o) p c) (ht : trk c = true) : Sim D (φ ++ [p]) (S ++ [c]) (upd H p o) where
  len := by rw [List.length_append, List.length_append, g.len]; rfl
  cell := fun l d a e e2 => by
    by_cases q : l < S.length
    · rw [List.getElem?_append_left q] at e
      rw [List.getElem?_append_left (by rw [g.len]; exact q)] at e2
      have h := g.cell l d a e e2
      refine h.mono (List.prefix_append _ _) (Tm.new hp) (fun t => ?_) (fun ob u z => ?_)
      · obtain ⟨o1, h1, _⟩ := h.soft t
        exact upd_ne (ne_of_none h1 hp)
      · rw [upd_ne (ne_of_none z hp)]; exact z
    · have hl := (List.getElem?_eq_some_iff.mp e).1
      rw [List.length_append] at hl
      have q2 : l = S.length := by simp at hl; omega
      subst q2
      rw [List.getElem?_append_right (Nat.le_refl _), Nat.sub_self] at e
      rw [← g.len, List.getElem?_append_right (Nat.le_refl _), Nat.sub_self] at e2
      cases e; cases e2
      exact hc
  inj := fun l k c1 d1 a e1 e2 t1 t2 f1 f2 => by
    have old : ∀ {l : Nat} {c1 : Cell}, l < S.length → (S ++ [c])[l]? = some c1 → trk c1 = true → (φ ++ [p])[l]? = some a → a ≠ p := fun {l c1} q e t f => by
      rw [List.getElem?_append_left q] at e
      rw [List.getElem?_append_left (by rw [g.len]; exact q)] at f
      obtain ⟨o1, h1, _⟩ := (g.cell l c1 a e f).soft t
      exact ne_of_none h1 hp
    have new : ∀ {l : Nat} {c1 : Cell}, ¬ l < S.length → (S ++ [c])[l]? = some c1 → l = S.length := fun {l c1} q e => by
      have hl := (List.getElem?_eq_some_iff.mp e).1
      rw [List.length_append] at hl
      simp at hl; omega
    have newA : ∀ {l : Nat}, l = S.length → (φ ++ [p])[l]? = some a → a = p := fun {l} q f => by
      subst q
      rw [← g.len, List.getElem?_append_right (Nat.le_refl _), Nat.sub_self] at f
      cases f; rfl
    by_cases q : l < S.length
    · by_cases q' : k < S.length
      · rw [List.getElem?_append_left q] at e1
        rw [List.getElem?_append_left q'] at e2
        rw [List.getElem?_append_left (by rw [g.len]; exact q)] at f1
        rw [List.getElem?_append_left (by rw [g.len]; exact q')] at f2
        exact g.inj l k c1 d1 a e1 e2 t1 t2 f1 f2
      · exact absurd (newA (new q' e2) f2) (old q e1 t1 f1)
    · by_cases q' : k < S.length
      · exact absurd (newA (new q e1) f1) (old q' e2 t2 f2)
      · rw [new q e1, new q' e2]
/-- a cell overwritten -/
theorem Sim.set {S : Store} (g : Sim D φ S H) {l : Nat} {a : Addr} {c c' : Cell} {o' : HO} (e : S[l]? = some c) (f : φ[l]? = some a) (t : trk c = true) (t' : trk c' = true) (hc : Tm D H (upd H a o') → CellOk D φ (upd H a o') a c') : Sim D φ (S.set l c') (upd H a o') := by
  obtain ⟨o, ho, hs⟩ := (g.cell l c a e f).soft t
  have tm : Tm D H (upd H a o') := Tm.set ho hs
  have lt : l < S.length := (List.getElem?_eq_some_iff.mp e).1
  refine ⟨by rw [List.length_set]; exact g.len, fun k d b e2 f2 => ?_, fun k m c1 d1 b e1 e2 t1 t2 f1 f2 => ?_⟩
  · by_cases q : l = k
    · subst q
      rw [List.getElem?_set_self lt] at e2
      cases e2
      rw [f] at f2; cases f2
      exact hc tm
    · rw [List.getElem?_set_ne q] at e2
      have h := g.cell k d b e2 f2
      refine h.mono (List.prefix_refl _) tm (fun td => ?_) (fun ob u z => ?_)
      · exact upd_ne fun z => q (g.inj l k c d a e e2 t td f (z ▸ f2))
      · rw [upd_ne (ne_of z ho (by intro y; subst y; cases hs))]; exact z
  · have back : ∀ {k : Nat} {c1 : Cell}, (S.set l c')[k]? = some c1 → trk c1 = true → ∃ c2, S[k]? = some c2 ∧ trk c2 = true := fun {k c1} e1 t1 => by
      by_cases q : l = k
      · subst q; exact ⟨c, e, t⟩
      · rw [List.getElem?_set_ne q] at e1; exact ⟨c1, e1, t1⟩
    obtain ⟨c2, e3, t3⟩ := back e1 t1
    obtain ⟨d2, e4, t4⟩ := back e2 t2
    exact g.inj k m c2 d2 b e3 e4 t3 t4 f1 f2
end
end PyI
set_option Elab.async false
set_option linter.all false
set_option autoImplicit false
set_option maxRecDepth 100000
set_option maxHeartbeats 2000000
/-! What the small machine answers is what the model does: expressions. -/
namespace PyI
open PySem L2

def RelD (φ : List Addr) : Option Nat → Option Addr → Prop
  | none, none => True
  | some l, some a => φ[l]? = some a
  | _, _ => False
/-- an answer, brought to the abstract heap -/
def SatR (D : Wd) {α β : Type} (r : R α) (rel : List Addr → Hp → α → β → Prop) (φ : List Addr) (H : Hp) (Q : β → Hp → Prop) (Ex : XK) : Prop :=
  match r with
  | .val u S1 => ∀ φ1 H1 v, φ <+: φ1 → Tm D H H1 → Sim D φ1 S1 H1 → rel φ1 H1 u v → Q v H1
  | .exc c d S1 => ∀ φ1 H1 dv, φ <+: φ1 → Tm D H H1 → Sim D φ1 S1 H1 → RelD φ1 d dv → Ex (.ref (D.cA c)) dv H1
  | .stuck => False
structure RelE (D : Wd) (φ : List Addr) (H : Hp) (env : Env) (σ : L2.St) : Prop where
  len : env.length = σ.length
  at_ : ∀ (i : Nat) (u : U), env[i]? = some (some u) → ∃ v, σ[i]? = some (some v) ∧ RelU D φ H u v
section
variable {D : Wd} {φ φ1 : List Addr} {H H1 : Hp}
theorem RelE.mono {env : Env} {σ : L2.St} (e : RelE D φ H env σ) (hp : φ <+: φ1) (ht : Tm D H H1) : RelE D φ1 H1 env σ := ⟨e.len, fun i u h => by
  obtain ⟨v, h1, h2⟩ := e.at_ i u h
  exact ⟨v, h1, h2.mono hp ht⟩⟩
theorem RelE.set {env : Env} {σ : L2.St} (e : RelE D φ H env σ) {u : U} {v : V} (r : RelU D φ H u v) (i : Nat) : RelE D φ H (env.set i (some u)) (σ.set i (some v)) := ⟨by rw [List.length_set, List.length_set]; exact e.len, fun j w h => by
  by_cases q : i = j
  · subst q
    have hl := (List.getElem?_eq_some_iff.mp h).1
    rw [List.length_set] at hl
    rw [List.getElem?_set_self hl] at h
    cases h
    exact ⟨v, List.getElem?_set_self (by rw [← e.len]; exact hl), r⟩
  · rw [List.getElem?_set_ne q] at h
    rw [List.getElem?_set_ne q]
    exact e.at_ j w h⟩
theorem SatR.mono {α β : Type} {r : R α} {rel : List Addr → Hp → α → β → Prop} {Q : β → Hp → Prop} {Ex : XK} (h : SatR D r rel φ H Q Ex) (hp : φ <+: φ1) (ht : Tm D H H1) : SatR D r rel φ1 H1 Q Ex := by
  cases r with
  | val u S => exact fun φ2 H2 v a b => h φ2 H2 v (hp.trans a) (ht.trans b)
  | exc c d S => exact fun φ2 H2 v a b => h φ2 H2 v (hp.trans a) (ht.trans b)
  | stuck => exact h
theorem SatR.bind {α β γ δ : Type} {r : R α} {f : α → Store → R β} {rel2 : List Addr → Hp → β → δ → Prop} {rel : List Addr → Hp → α → γ → Prop} {Q : δ → Hp → Prop} {Q1 : γ → Hp → Prop} {Ex : XK} (h : SatR D (r.bind f) rel2 φ H Q Ex)
    (k : ∀ (a : α) (S1 : Store) (φ1 : List Addr) (H1 : Hp) (v : γ), r = .val a S1 → φ <+: φ1 → Tm D H H1 → Sim D φ1 S1 H1 → rel φ1 H1 a v → SatR D (f a S1) rel2 φ1 H1 Q Ex → Q1 v H1) : SatR D r rel φ H Q1 Ex := by
  cases r with
  | val u S => exact fun φ2 H2 v a b g e => k u S φ2 H2 v rfl a b g e (SatR.mono (r := f u S) h a b)
  | exc c d S => exact h
  | stuck => exact h
theorem SatR.here {α β : Type} {u : α} {S : Store} {rel : List Addr → Hp → α → β → Prop} {Q : β → Hp → Prop} {Ex : XK} {v : β} (h : SatR D (.val u S) rel φ H Q Ex) (g : Sim D φ S H) (r : rel φ H u v) : Q v H := h φ H v (List.prefix_refl _) (Tm.refl _ _) g r
theorem SatR.newL {us : List U} {S : Store} {Q : VK} {Ex : XK} {vs : List V} (h : SatR D (newL us S) (RelU D) φ H Q Ex) (g : Sim D φ S H) (r : RelUs D φ H us vs) : vs.length ≤ sizeLine ∧ ∀ p, H p = none → Q (.ref p) (upd H p (.lst vs)) := by
  unfold PyI.newL at h
  by_cases q : us.length ≤ LINE
  · rw [if_pos q] at h
    refine ⟨by rw [← r.len, sizeLine_eq]; exact q, fun p hp => ?_⟩
    refine h (φ ++ [p]) _ _ (List.prefix_append _ _) (Tm.new hp) (g.new hp ⟨vs, upd_same, r.mono (List.prefix_append _ _) (Tm.new hp)⟩ rfl) (.ref ?_)
    rw [← g.len, List.getElem?_append_right (Nat.le_refl _), Nat.sub_self]
    rfl
  · rw [if_neg q] at h
    exact h.elim
theorem SatR.newC {us : List U} {S : Store} {Q : VK} {Ex : XK} {vs : List V} (h : SatR D (newC (.lst us) S) (RelU D) φ H Q Ex) (g : Sim D φ S H) (r : RelUs D φ H us vs) : ∀ p, H p = none → Q (.ref p) (upd H p (.lst vs)) := fun p hp => by
  refine h (φ ++ [p]) _ _ (List.prefix_append _ _) (Tm.new hp) (g.new hp ⟨vs, upd_same, r.mono (List.prefix_append _ _) (Tm.new hp)⟩ rfl) (.ref ?_)
  rw [← g.len, List.getElem?_append_right (Nat.le_refl _), Nat.sub_self]
  rfl
theorem SatR.ofO {α β : Type} {o : Option α} {S : Store} {rel : List Addr → Hp → α → β → Prop} {Q : β → Hp → Prop} {Ex : XK} (h : SatR D (ofO S o) rel φ H Q Ex) : ∃ u, o = some u ∧ SatR D (.val u S) rel φ H Q Ex := by
  cases o with
  | none => exact h.elim
  | some u => exact ⟨u, rfl, h⟩

/-! ### what a value is, seen in the store -/
/-- a list cell: readable -/
theorem Sim.rd {S : Store} (g : Sim D φ S H) {l : Nat} {a : Addr} {us : List U} (f : φ[l]? = some a) (e : S[l]? = some (.lst us) ∨ S[l]? = some (.fz us)) : ∃ vs, SqL D.K H a vs ∧ RelUs D φ H us vs := by
  rcases e with e | e
  · obtain ⟨vs, h, r⟩ := g.cell l _ a e f
    exact ⟨vs, .of h, r⟩
  · obtain ⟨vs, h, r⟩ := g.cell l _ a e f
    refine ⟨vs, ?_, r⟩
    rcases h with ⟨o, h⟩ | h
    · exact .inl (.inr ⟨o, h⟩)
    · exact h H
theorem items_of {S : Store} {u : U} {us : List U} (h : itemsU S u = some us) : (u = .tup us) ∨ ∃ l, u = .ref l ∧ (S[l]? = some (.lst us) ∨ S[l]? = some (.fz us)) := by
  unfold itemsU at h
  cases u with
  | tup ws => cases h; exact .inl rfl
  | ref l =>
    refine .inr ⟨l, rfl, ?_⟩
    dsimp only at h
    split at h
    · cases h; exact .inl (by assumption)
    · cases h; exact .inr (by assumption)
    · cases h
  | _ => cases h
theorem Sim.items {S : Store} (g : Sim D φ S H) {u : U} {v : V} {us : List U} (r : RelU D φ H u v) (h : itemsU S u = some us) : ∃ a vs, v = .ref a ∧ (SqL D.K H a vs ∨ SqT D.K H a vs) ∧ RelUs D φ H us vs := by
  rcases items_of h with rfl | ⟨l, rfl, e⟩
  · cases r with
    | tup s r => exact ⟨_, _, rfl, .inr s, r⟩
  · cases r with
    | ref f =>
      obtain ⟨vs, h1, h2⟩ := g.rd f e
      exact ⟨_, vs, rfl, .inl h1, h2⟩
theorem Sim.itemsL {S : Store} (g : Sim D φ S H) {l : Nat} {v : V} {us : List U} (r : RelU D φ H (.ref l) v) (h : itemsU S (.ref l) = some us) : ∃ a vs, v = .ref a ∧ SqL D.K H a vs ∧ RelUs D φ H us vs := by
  rcases items_of h with q | ⟨k, q, e⟩
  · cases q
  · cases q
    cases r with
    | ref f =>
      obtain ⟨vs, h1, h2⟩ := g.rd f e
      exact ⟨_, vs, rfl, h1, h2⟩
/-- plain data -/
theorem seqO_some {α : Type} : ∀ {l : List (Option α)} {r : List α}, seqO l = some r → l = r.map some
  | [], r, h => by cases h; rfl
  | none :: _, r, h => by cases h
  | some a :: t, r, h => by
    unfold seqO at h
    cases q : seqO t with
    | none => rw [q] at h; cases h
    | some s => rw [q] at h; cases h; rw [seqO_some q]; rfl
theorem dat_ok {S : Store} (g : Sim D φ S H) : ∀ (n : Nat) {u : U} {v : V} {d : PyData}, RelU D φ H u v → datU S n u = some d → Dp D.K H v d ∧ PyData.canLay0 d = true ∧ d.depth ≤ n := by
  intro n
  induction n with
  | zero =>
    intro u v d r h
    cases r with
    | non => cases h; exact ⟨.non, by simp [PyData.canLay0], by simp [PyData.depth]⟩
    | bl b => cases h; exact ⟨.bl b, by simp [PyData.canLay0], by simp [PyData.depth]⟩
    | int b => cases h; exact ⟨.int b, by simp [PyData.canLay0], by simp [PyData.depth]⟩
    | str b =>
      dsimp only [datU] at h
      split at h
      · rename_i ok
        cases h
        exact ⟨.str b, by simp only [PyData.canLay0]; exact ok, by simp [PyData.depth]⟩
      · cases h
    | tup s r => cases h
    | ref f => cases h
    | fn f => cases h
  | succ n ih =>
    have all : ∀ {us : List U} {vs : List V} {ds : List PyData}, RelUs D φ H us vs → seqO (us.map (datU S n)) = some ds → DpAll D.K H vs ds ∧ PyData.canLayAll0 ds = true ∧ PyData.depthAll ds ≤ n := by
      intro us
      induction us with
      | nil => intro vs ds r h; cases r; cases h; exact ⟨.nil, by simp [PyData.canLayAll0], by simp [PyData.depthAll]⟩
      | cons u us ihs =>
        intro vs ds r h
        cases r with
        | cons a r =>
          rw [List.map_cons] at h
          cases q : datU S n u with
          | none => rw [q] at h; cases h
          | some d =>
            rw [q] at h
            unfold seqO at h
            cases q2 : seqO (us.map (datU S n)) with
            | none => rw [q2] at h; cases h
            | some es =>
              rw [q2] at h; cases h
              obtain ⟨a1, a2, a3⟩ := ih a q
              obtain ⟨b1, b2, b3⟩ := ihs r q2
              refine ⟨.cons a1 b1, ?_, ?_⟩
              · simp only [PyData.canLayAll0, a2, b2, Bool.and_self]
              · simp only [PyData.depthAll]; omega
    intro u v d r h
    cases r with
    | non => cases h; exact ⟨.non, by simp [PyData.canLay0], by simp [PyData.depth]⟩
    | bl b => cases h; exact ⟨.bl b, by simp [PyData.canLay0], by simp [PyData.depth]⟩
    | int b => cases h; exact ⟨.int b, by simp [PyData.canLay0], by simp [PyData.depth]⟩
    | str b =>
      dsimp only [datU] at h
      split at h
      · rename_i ok
        cases h
        exact ⟨.str b, by simp only [PyData.canLay0]; exact ok, by simp [PyData.depth]⟩
      · cases h
    | tup s r =>
      dsimp only [datU] at h
      obtain ⟨ds, h1, rfl⟩ := Option.map_eq_some_iff.mp h
      obtain ⟨a1, a2, a3⟩ := all r h1
      refine ⟨.tup s a1, ?_, ?_⟩
      · simp only [PyData.canLay0]; exact a2
      · simp only [PyData.depth]; omega
    | ref f =>
      rename_i l a
      dsimp only [datU] at h
      have fin : ∀ {us : List U}, (S[l]? = some (.lst us) ∨ S[l]? = some (.fz us)) → (seqO (us.map (datU S n))).map .list = some d → Dp D.K H (.ref a) d ∧ PyData.canLay0 d = true ∧ d.depth ≤ n + 1 := fun {us} e h => by
        obtain ⟨ds, h1, rfl⟩ := Option.map_eq_some_iff.mp h
        obtain ⟨vs, s, r⟩ := g.rd f e
        obtain ⟨a1, a2, a3⟩ := all r h1
        refine ⟨.lst s a1, ?_, ?_⟩
        · simp only [PyData.canLay0]; exact a2
        · simp only [PyData.depth]; omega
      split at h
      · exact fin (.inl (by assumption)) h
      · exact fin (.inr (by assumption)) h
      · cases h
    | fn f => cases h
theorem eqD_ok {S : Store} (g : Sim D φ S H) {u w : U} {x y : V} {b : Bool} (r : RelU D φ H u x) (s : RelU D φ H w y) (h : eqD S u w = some b) : ∃ d e, Dp D.K H x d ∧ Dp D.K H y e ∧ SeqAt.shaped d = true ∧ SeqAt.shaped e = true ∧ b = PyData.eqv d e := by
  unfold eqD at h
  split at h
  · rename_i d e hd he
    cases h
    obtain ⟨a1, a2, a3⟩ := dat_ok g _ r hd
    obtain ⟨b1, b2, b3⟩ := dat_ok g _ s he
    refine ⟨d, e, a1, b1, ?_, ?_, rfl⟩
    · unfold SeqAt.shaped
      rw [a2, decide_eq_true (Nat.le_trans a3 (by decide))]; rfl
    · unfold SeqAt.shaped
      rw [b2, decide_eq_true (Nat.le_trans b3 (by decide))]; rfl
  · cases h
theorem eq_ok {S : Store} (g : Sim D φ S H) {u w : U} {x y : V} {b : Bool} (r : RelU D φ H u x) (s : RelU D φ H w y) (h : eqU S u w = some b) :
    (scal x y = true ∧ b = decide (x = y)) ∨ ∃ d e, Dp D.K H x d ∧ Dp D.K H y e ∧ SeqAt.shaped d = true ∧ SeqAt.shaped e = true ∧ b = PyData.eqv d e := by
  unfold eqU at h
  split at h
  · cases r; cases s; cases h
    exact .inl ⟨rfl, by simp⟩
  · cases r; cases s; cases h
    exact .inl ⟨rfl, by simp⟩
  · cases r; cases s; cases h
    exact .inl ⟨rfl, by simp⟩
  · cases r; cases s; cases h
    exact .inl ⟨rfl, by simp⟩
  · exact .inr (eqD_ok g r s h)
theorem truV_ok {S : Store} (g : Sim D φ S H) {u : U} {x : V} {b : Bool} (r : RelU D φ H u x) (h : truU S u = some b) : TruV D.K x H b := by
  cases r with
  | non => cases h; rfl
  | bl b => cases h; rfl
  | int i => cases h; rfl
  | str y =>
    unfold truU at h
    dsimp only at h
    split at h
    · rename_i q
      cases h
      refine ⟨by rw [sizeLine_eq]; exact q, ?_⟩
      show (y.length != 0) = ((y.length : Int) != 0)
      cases y.length with
      | zero => rfl
      | succ n =>
        have h1 : ((n + 1 : Nat) != 0) = true := rfl
        have h2 : (((n + 1 : Nat) : Int) != 0) = true := by
          rw [bne_iff_ne]; omega
        rw [h1, h2]
    · cases h
  | tup s r =>
    rename_i us vs a
    cases h
    refine .inr (.inl ⟨vs, s, ?_⟩)
    cases r <;> rfl
  | ref f =>
    rename_i l a
    unfold truU at h
    dsimp only at h
    have fin : ∀ {us : List U}, (S[l]? = some (.lst us) ∨ S[l]? = some (.fz us)) → TruV D.K (.ref a) H (!us.isEmpty) := fun {us} e => by
      obtain ⟨vs, s, r⟩ := g.rd f e
      refine .inl ⟨vs, s, ?_⟩
      cases r <;> rfl
    split at h
    · cases h; exact fin (.inl (by assumption))
    · cases h; exact fin (.inr (by assumption))
    · cases h
      rename_i kvs e
      obtain ⟨gs, h1, r⟩ := g.cell l _ a e f
      refine .inr (.inr ⟨gs, h1, ?_⟩)
      cases r <;> rfl
    · cases h
  | fn f => cases h
end
end PyI
set_option Elab.async false
set_option linter.all false
set_option autoImplicit false
set_option maxRecDepth 100000
set_option maxHeartbeats 2000000
/-! Operators, comparisons, items. -/
namespace PyI
open PySem L2
section
variable {D : Wd} {φ : List Addr} {H : Hp} {S : Store} {u w : U} {x y : V} {Q : VK} {Ex : XK}
abbrev rAddI : R2 := rI0 fun i j => .int (i + j)
abbrev rAddS : R2 := fun x y H Q => ∃ i j, x = .str i ∧ y = .str j ∧ i.length + j.length ≤ sizeLine ∧ Q (.str (i ++ j)) H
abbrev rAdds (K : PySem.W.Frag) : R2 := fun x y H Q => rAddI x y H Q ∨ (rAddS x y H Q ∨ (rCat x y H Q ∨ rCatA K x y H Q))
theorem opAdds {X : Cx} : OpR X (binaryOp .Add) (rAdds X.K) := op_add.or (op_add_str.or (op_cat.or op_catA))
theorem bin_add (g : Sim D φ S H) (r : RelU D φ H u x) (s : RelU D φ H w y) (h : SatR D (binU .add u w S) (RelU D) φ H Q Ex) : rAdds D.K x y H Q := by
  cases r with
  | int i => cases s with
    | int j => exact .inl ⟨i, j, rfl, rfl, h.here g (.int _)⟩
    | _ => exact h.elim
  | str a => cases s with
    | str b =>
      dsimp only [binU] at h
      split at h
      · rename_i q
        exact .inr (.inl ⟨a, b, rfl, rfl, by rw [sizeLine_eq]; exact q, h.here g (.str _)⟩)
      · exact h.elim
    | _ => exact h.elim
  | tup s1 r1 => cases s with
    | tup s2 r2 =>
      rename_i us vs a ws zs b
      dsimp only [binU] at h
      split at h
      · rename_i q
        refine .inr (.inr (.inr ⟨a, b, vs, zs, rfl, rfl, s1, s2, by rw [sizeLine_eq, ← r1.len, ← r2.len]; exact q, ?_⟩))
        have go : ∀ (p : Addr) (H1 : Hp), Tm D H H1 → Sim D φ S H1 → SqT D.K H1 p (vs ++ zs) → Q (.ref p) H1 := fun p H1 tm g1 st =>
          h φ H1 _ (List.prefix_refl _) tm g1 (.tup st ((r1.mono (List.prefix_refl _) tm).app (r2.mono (List.prefix_refl _) tm)))
        have new : ∀ (p : Addr), H p = none → Q (.ref p) (upd H p (.tup (vs ++ zs))) := fun p hp => by
          refine go p _ (Tm.new hp) ⟨g.len, fun l c a e f => ?_, g.inj⟩ (.of upd_same)
          refine (g.cell l c a e f).mono (List.prefix_refl _) (Tm.new hp) (fun t => ?_) (fun o v z => ?_)
          · obtain ⟨o1, h1, _⟩ := (g.cell l c a e f).soft t
            exact upd_ne (ne_of_none h1 hp)
          · rw [upd_ne (ne_of_none z hp)]; exact z
        first
          | exact ⟨fun e => go _ H (Tm.refl _ _) g (by subst e; simpa using s1), fun e => (fun e2 => go _ H (Tm.refl _ _) g (by subst e2; simpa using s2)), fun _ _ p hp => new p hp⟩
          | exact ⟨fun e => go _ H (Tm.refl _ _) g (by subst e; simpa using s1), fun e => go _ H (Tm.refl _ _) g (by subst e; simpa using s2), fun _ _ p hp => new p hp⟩
          | exact ⟨fun e => go _ H (Tm.refl _ _) g (by subst e; simpa using s2), fun e => go _ H (Tm.refl _ _) g (by subst e; simpa using s1), fun _ _ p hp => new p hp⟩
          | exact ⟨fun e => go _ H (Tm.refl _ _) g (by subst e; simpa using s2), fun _ e => go _ H (Tm.refl _ _) g (by subst e; simpa using s1), fun _ _ p hp => new p hp⟩
      · exact h.elim
    | _ => exact h.elim
  | ref f => cases s with
    | ref f2 =>
      rename_i l a l2 b
      dsimp only [binU] at h
      split at h
      · rename_i us ws e1 e2
        obtain ⟨vs, h1, r1⟩ := g.cell l _ a e1 f
        obtain ⟨zs, h2, r2⟩ := g.cell l2 _ b e2 f2
        obtain ⟨hz, q⟩ := h.newL g (r1.app r2)
        exact .inr (.inr (.inl ⟨a, b, vs, zs, rfl, rfl, h1, h2, by rw [List.length_append] at hz; exact hz, q⟩))
      · exact h.elim
    | _ => exact h.elim
  | _ => exact h.elim
theorem bin_sub (g : Sim D φ S H) (r : RelU D φ H u x) (s : RelU D φ H w y) (h : SatR D (binU .sub u w S) (RelU D) φ H Q Ex) : rI0 (fun i j => .int (i - j)) x y H Q := by
  cases r with
  | int i => cases s with
    | int j => exact ⟨i, j, rfl, rfl, h.here g (.int _)⟩
    | _ => exact h.elim
  | _ => cases s <;> exact h.elim
theorem bin_mul (g : Sim D φ S H) (r : RelU D φ H u x) (s : RelU D φ H w y) (h : SatR D (binU .mul u w S) (RelU D) φ H Q Ex) : rI CMul (fun i j => .int (i * j)) x y H Q ∨ rRep x y H Q := by
  cases r with
  | int i => cases s with
    | int j =>
      dsimp only [binU] at h
      split at h
      · rename_i q
        exact .inl ⟨i, j, rfl, rfl, q.elim (fun z => .inl ⟨by omega, by omega⟩) (fun z => .inr ⟨by omega, by omega⟩), h.here g (.int _)⟩
      · exact h.elim
    | _ => exact h.elim
  | ref f => cases s with
    | int k =>
      rename_i l a
      dsimp only [binU] at h
      split at h
      · rename_i us e1
        split at h
        · rename_i q
          obtain ⟨vs, h1, r1⟩ := g.cell l _ a e1 f
          obtain ⟨hz, q2⟩ := h.newL g (r1.rep k.toNat)
          refine .inr ⟨a, k, vs, rfl, rfl, h1, by omega, by omega, ?_, q2⟩
          rw [List.length_flatten, List.map_replicate, List.sum_replicate_nat] at hz
          rw [Nat.mul_comm]
          exact hz
        · exact h.elim
      · exact h.elim
    | _ => exact h.elim
  | _ => cases s <;> exact h.elim
theorem bin_fdiv (g : Sim D φ S H) (r : RelU D φ H u x) (s : RelU D φ H w y) (h : SatR D (binU .fdiv u w S) (RelU D) φ H Q Ex) : rI CDivW (fun i j => .int (i / j)) x y H Q := by
  cases r with
  | int i => cases s with
    | int j =>
      dsimp only [binU] at h
      split at h
      · rename_i q
        exact ⟨i, j, rfl, rfl, wide_div (b := 64) q.1 (by omega) (by decide) (by decide), h.here g (.int _)⟩
      · exact h.elim
    | _ => exact h.elim
  | _ => cases s <;> exact h.elim
theorem bin_mod (g : Sim D φ S H) (r : RelU D φ H u x) (s : RelU D φ H w y) (h : SatR D (binU .mod u w S) (RelU D) φ H Q Ex) : rI (fun _ j => 0 < j) (fun i j => .int (i % j)) x y H Q := by
  cases r with
  | int i => cases s with
    | int j =>
      dsimp only [binU] at h
      split at h
      · rename_i q
        exact ⟨i, j, rfl, rfl, q, h.here g (.int _)⟩
      · exact h.elim
    | _ => exact h.elim
  | _ => cases s <;> exact h.elim
theorem bin_band (g : Sim D φ S H) (r : RelU D φ H u x) (s : RelU D φ H w y) (h : SatR D (binU .band u w S) (RelU D) φ H Q Ex) : ∃ (i : Int) (k : Nat), x = .int i ∧ y = .int (2 ^ k - 1) ∧ Q (.int (i % 2 ^ k)) H := by
  cases r with
  | int i => cases s with
    | int j =>
      dsimp only [binU] at h
      split at h
      · rename_i q
        subst q
        exact ⟨i, 8, rfl, by decide, h.here g (.int _)⟩
      · exact h.elim
    | _ => exact h.elim
  | _ => cases s <;> exact h.elim

/-! ### comparisons -/
abbrev rCEq (K : PySem.W.Frag) : R2 := fun x y H Q => rEq x y H Q ∨ rEqD K x y H Q
abbrev rCNe (K : PySem.W.Frag) : R2 := fun x y H Q => rNe x y H Q ∨ rNeD K x y H Q
theorem cmp_eq (g : Sim D φ S H) (r : RelU D φ H u x) (s : RelU D φ H w y) (h : SatR D (ofO S ((cmpU S .eq u w).map .bl)) (RelU D) φ H Q Ex) : rCEq D.K x y H Q := by
  obtain ⟨z, hz, h⟩ := h.ofO
  obtain ⟨b, hb, rfl⟩ := Option.map_eq_some_iff.mp hz
  have q := h.here g (.bl b)
  rcases eq_ok g r s hb with ⟨h1, rfl⟩ | ⟨d, e, h1, h2, h3, h4, rfl⟩
  · exact .inl ⟨h1, q⟩
  · exact .inr ⟨d, e, h1, h2, h3, h4, q⟩
theorem cmp_ne (g : Sim D φ S H) (r : RelU D φ H u x) (s : RelU D φ H w y) (h : SatR D (ofO S ((cmpU S .ne u w).map .bl)) (RelU D) φ H Q Ex) : rCNe D.K x y H Q := by
  obtain ⟨z, hz, h⟩ := h.ofO
  obtain ⟨b0, hb0, rfl⟩ := Option.map_eq_some_iff.mp hz
  obtain ⟨b, hb, rfl⟩ := Option.map_eq_some_iff.mp hb0
  have q := h.here g (.bl _)
  rcases eq_ok g r s hb with ⟨h1, rfl⟩ | ⟨d, e, h1, h2, h3, h4, rfl⟩
  · exact .inl ⟨h1, q⟩
  · exact .inr ⟨d, e, h1, h2, h3, h4, q⟩
theorem cmp_int {o : Cop} {p : Int → Int → Bool} (ho : ∀ u w : U, (∃ i j, u = .int i ∧ w = .int j ∧ cmpU S o u w = some (p i j)) ∨ cmpU S o u w = none) (g : Sim D φ S H) (r : RelU D φ H u x) (s : RelU D φ H w y) (h : SatR D (ofO S ((cmpU S o u w).map .bl)) (RelU D) φ H Q Ex) : rI0 (fun i j => .bl (p i j)) x y H Q := by
  rcases ho u w with ⟨i, j, rfl, rfl, e⟩ | e
  · rw [e] at h
    cases r; cases s
    exact ⟨i, j, rfl, rfl, SatR.here (u := U.bl (p i j)) h g (.bl _)⟩
  · rw [e] at h
    exact h.elim
abbrev rIsNo : R2 := fun x y H Q => y = .non ∧ Q (.bl (decide (x = .non))) H
abbrev rNotNo : R2 := fun x y H Q => y = .non ∧ Q (.bl (!decide (x = .non))) H
theorem cmp_isN (g : Sim D φ S H) (r : RelU D φ H u x) (s : RelU D φ H w y) (h : SatR D (ofO S ((cmpU S .isN u w).map .bl)) (RelU D) φ H Q Ex) : rIsNo x y H Q := by
  obtain ⟨z, hz, h⟩ := h.ofO
  obtain ⟨b, hb, rfl⟩ := Option.map_eq_some_iff.mp hz
  have q := h.here g (.bl b)
  cases s <;> cases r <;> first | (cases hb; exact ⟨rfl, q⟩) | (cases hb)
abbrev rIsBo : R2 := fun x y H Q => ∃ a b, x = V.bl a ∧ y = V.bl b ∧ Q (V.bl (decide (a = b))) H
abbrev rNotBo : R2 := fun x y H Q => ∃ a b, x = V.bl a ∧ y = V.bl b ∧ Q (V.bl (!decide (a = b))) H
theorem cmp_isB (g : Sim D φ S H) (r : RelU D φ H u x) (s : RelU D φ H w y) (h : SatR D (ofO S ((cmpU S .is u w).map .bl)) (RelU D) φ H Q Ex) : rIsBo x y H Q := by
  obtain ⟨z, hz, h⟩ := h.ofO
  obtain ⟨b, hb, rfl⟩ := Option.map_eq_some_iff.mp hz
  have q := h.here g (.bl b)
  cases s <;> cases r <;> first | (cases hb; exact ⟨_, _, rfl, rfl, q⟩) | (cases hb)
theorem cmp_notB (g : Sim D φ S H) (r : RelU D φ H u x) (s : RelU D φ H w y) (h : SatR D (ofO S ((cmpU S .isnot u w).map .bl)) (RelU D) φ H Q Ex) : rNotBo x y H Q := by
  obtain ⟨z, hz, h⟩ := h.ofO
  obtain ⟨b, hb, rfl⟩ := Option.map_eq_some_iff.mp hz
  have q := h.here g (.bl b)
  cases s <;> cases r <;> first | (cases hb; exact ⟨_, _, rfl, rfl, q⟩) | (cases hb)
theorem cmp_notN (g : Sim D φ S H) (r : RelU D φ H u x) (s : RelU D φ H w y) (h : SatR D (ofO S ((cmpU S .notN u w).map .bl)) (RelU D) φ H Q Ex) : rNotNo x y H Q := by
  obtain ⟨z, hz, h⟩ := h.ofO
  obtain ⟨b, hb, rfl⟩ := Option.map_eq_some_iff.mp hz
  have q := h.here g (.bl b)
  cases s <;> cases r <;> first | (cases hb; exact ⟨rfl, q⟩) | (cases hb)
end
end PyI
set_option Elab.async false
set_option linter.all false
set_option autoImplicit false
set_option maxRecDepth 100000
set_option maxHeartbeats 2000000
/-! Items, slices, built-ins, methods of lists. -/
namespace PyI
open PySem L2
section
variable {D : Wd} {φ : List Addr} {H : Hp} {S : Store} {u w : U} {x y : V} {Q : VK} {Ex : XK}
/-- a new tuple is nothing to the store -/
theorem Sim.tupNew (g : Sim D φ S H) {p : Addr} {vs : List V} (hp : H p = none) : Sim D φ S (upd H p (.tup vs)) := by
  refine ⟨g.len, fun l c a e f => ?_, g.inj⟩
  refine (g.cell l c a e f).mono (List.prefix_refl _) (Tm.new hp) (fun t => ?_) (fun o v z => ?_)
  · obtain ⟨o1, h1, _⟩ := (g.cell l c a e f).soft t
    exact upd_ne (ne_of_none h1 hp)
  · rw [upd_ne (ne_of_none z hp)]; exact z
theorem SatR.newT {us : List U} {vs : List V} (h : SatR D (.val (.tup us) S) (RelU D) φ H Q Ex) (g : Sim D φ S H) (r : RelUs D φ H us vs) : ∀ p, H p = none → Q (.ref p) (upd H p (.tup vs)) := fun p hp =>
  h φ _ _ (List.prefix_refl _) (Tm.new hp) (g.tupNew hp) (.tup (.of upd_same) (r.mono (List.prefix_refl _) (Tm.new hp)))

/-! ### in -/
abbrev rMemS : R2 := fun x y H Q => ∃ (c : Nat) (z : PySem.Str), x = .str ⟨#[c]⟩ ∧ y = .str z ∧ Q (.bl (decide (c ∈ z.cps.toList))) H
abbrev rNmemS : R2 := fun x y H Q => ∃ (c : Nat) (z : PySem.Str), x = .str ⟨#[c]⟩ ∧ y = .str z ∧ Q (.bl (!decide (c ∈ z.cps.toList))) H
abbrev rMem (K : PySem.W.Frag) : R2 := fun x y H Q => rMemS x y H Q ∨ (rIn K false x y H Q ∨ rInD K x y H Q)
abbrev rNmem (K : PySem.W.Frag) : R2 := fun x y H Q => rNmemS x y H Q ∨ (rIn K true x y H Q ∨ rNotInD K x y H Q)
theorem str_of1 {a : PySem.Str} {c : Nat} (h : a.cps.toList = [c]) : a = ⟨#[c]⟩ := by
  cases a with
  | mk cps =>
    have : cps = #[c] := by
      apply Array.ext'
      simpa using h
    rw [this]
theorem flV {u : U} {x : V} (r : RelU D φ H u x) (h : flU u = true) : flatV x = true := by
  cases r <;> first | rfl | cases h
theorem flVs {us : List U} : ∀ {vs : List V}, RelUs D φ H us vs → us.all flU = true → vs.all flatV = true := by
  induction us with
  | nil => intro vs r _; cases r; rfl
  | cons u us ih =>
    intro vs r h
    cases r with
    | cons a r =>
      rw [List.all_cons, Bool.and_eq_true] at h
      rw [List.all_cons, flV a h.1, ih r h.2]; rfl
theorem eqF_ok {u w : U} {x y : V} (r : RelU D φ H u x) (s : RelU D φ H w y) (f1 : flU u = true) (f2 : flU w = true) : eqF u w = eqV x y := by
  cases r <;> cases s <;> first | rfl | cases f1 | cases f2
theorem anyF_ok {xs : List U} {vs : List V} {u : U} {x : V} (rs : RelUs D φ H xs vs) (r : RelU D φ H u x) (f1 : flU u = true) (f2 : xs.all flU = true) : (xs.any fun z => eqF z u) = inV x vs := by
  induction xs generalizing vs with
  | nil => cases rs; rfl
  | cons z xs ih =>
    cases rs with
    | cons a rs =>
      rw [List.all_cons, Bool.and_eq_true] at f2
      rw [List.any_cons, ih rs f2.2, eqF_ok a r f2.1 f1]; rfl
theorem memI_ok (g : Sim D φ S H) (r : RelU D φ H u x) (s : RelU D φ H w y) {b : Bool} (h : memI S u w = some b) :
    (∃ p xs, y = .ref p ∧ (SqL D.K H p xs ∨ SqT D.K H p xs) ∧ flatV x = true ∧ xs.all flatV = true ∧ b = inV x xs) ∨
    (∃ d ds, Dp D.K H x d ∧ Dp D.K H y (.list ds) ∧ SeqAt.shaped d = true ∧ SeqAt.shaped (.list ds) = true ∧ b = ds.any fun z => PyData.eqv z d) := by
  unfold memI at h
  split at h
  · rename_i us hi
    split at h
    · rename_i q
      cases h
      obtain ⟨a, vs, rfl, h1, h2⟩ := g.items s hi
      exact .inl ⟨a, vs, rfl, h1, flV r q.1, flVs h2 q.2, anyF_ok h2 r q.1 q.2⟩
    · split at h
      · split at h
        · rename_i d ds h1 h2
          cases h
          obtain ⟨a1, a2, a3⟩ := dat_ok g _ r h1
          obtain ⟨b1, b2, b3⟩ := dat_ok g _ s h2
          refine .inr ⟨d, ds, a1, b1, ?_, ?_, rfl⟩
          · unfold SeqAt.shaped
            rw [a2, decide_eq_true (Nat.le_trans a3 (by decide))]; rfl
          · unfold SeqAt.shaped
            rw [b2, decide_eq_true (Nat.le_trans b3 (by decide))]; rfl
        · cases h
      · cases h
  · cases h
theorem cmp_mem (g : Sim D φ S H) (r : RelU D φ H u x) (s : RelU D φ H w y) (h : SatR D (ofO S ((cmpU S .mem u w).map .bl)) (RelU D) φ H Q Ex) : rMem D.K x y H Q := by
  obtain ⟨z, hz, h⟩ := h.ofO
  obtain ⟨b, hb, rfl⟩ := Option.map_eq_some_iff.mp hz
  have q := h.here g (.bl b)
  dsimp only [cmpU, memU] at hb
  split at hb
  · split at hb
    · rename_i e
      cases hb
      cases r; cases s
      exact .inl ⟨_, _, congrArg V.str (str_of1 e), rfl, q⟩
    · cases hb
  · rcases memI_ok g r s hb with ⟨p, xs, e, h1, h2, h3, e2⟩ | ⟨d, ds, h1, h2, h3, h4, e2⟩
    · rw [e2] at q
      exact .inr (.inl ⟨p, xs, e, h1, h2, h3, q⟩)
    · rw [e2] at q
      exact .inr (.inr ⟨d, ds, h1, h2, h3, h4, q⟩)
theorem cmp_nmem (g : Sim D φ S H) (r : RelU D φ H u x) (s : RelU D φ H w y) (h : SatR D (ofO S ((cmpU S .nmem u w).map .bl)) (RelU D) φ H Q Ex) : rNmem D.K x y H Q := by
  obtain ⟨z, hz, h⟩ := h.ofO
  obtain ⟨b0, hb0, rfl⟩ := Option.map_eq_some_iff.mp hz
  obtain ⟨b, hb, rfl⟩ := Option.map_eq_some_iff.mp hb0
  have q := h.here g (.bl _)
  dsimp only [memU] at hb
  split at hb
  · split at hb
    · rename_i e
      cases hb
      cases r; cases s
      exact .inl ⟨_, _, congrArg V.str (str_of1 e), rfl, q⟩
    · cases hb
  · rcases memI_ok g r s hb with ⟨p, xs, e, h1, h2, h3, e2⟩ | ⟨d, ds, h1, h2, h3, h4, e2⟩
    · rw [e2] at q
      exact .inr (.inl ⟨p, xs, e, h1, h2, h3, q⟩)
    · rw [e2] at q
      exact .inr (.inr ⟨d, ds, h1, h2, h3, h4, q⟩)

/-! ### items, slices -/
theorem atU_atI {α : Type} (xs : List α) (i : Int) : atU xs i = atI xs i := by
  unfold atU atI ixN
  split
  · split <;> rfl
  · split <;> rfl
theorem atI_rel {us : List U} {vs : List V} (r : RelUs D φ H us vs) {i : Int} {u : U} (h : atU us i = some u) : ∃ v, atI vs i = some v ∧ RelU D φ H u v := by
  rw [atU_atI] at h
  unfold atI at h ⊢
  rw [← r.len]
  cases q : ixN us.length i with
  | none => rw [q] at h; cases h
  | some j =>
    rw [q] at h
    exact r.at h
theorem ix_ok (g : Sim D φ S H) (r : RelU D φ H u x) (s : RelU D φ H w y) (h : SatR D (ofO S (ixU S u w)) (RelU D) φ H Q Ex) : rIx D.K x y H Q := by
  obtain ⟨z, hz, hv⟩ := h.ofO
  cases r with
  | str a =>
    cases s with
    | int i =>
      dsimp only [ixU] at hz
      split at hz
      · rename_i q
        obtain ⟨c, hc, rfl⟩ := Option.map_eq_some_iff.mp hz
        rw [atU_atI] at hc
        exact .inr (.inr ⟨a, i, c, rfl, rfl, by rw [sizeLine_eq]; exact q, hc, hv.here g (.str _)⟩)
      · cases hz
    | _ => cases hz
  | tup st rs =>
    cases s with
    | int i =>
      dsimp only [ixU] at hz
      obtain ⟨v, h1, h2⟩ := atI_rel rs hz
      exact .inr (.inl ⟨_, _, i, v, rfl, rfl, st, h1, hv.here g h2⟩)
    | _ => cases hz
  | ref f =>
    rename_i l a
    dsimp only [ixU] at hz
    have fin : ∀ {us : List U} {i : Int}, (S[l]? = some (.lst us) ∨ S[l]? = some (.fz us)) → y = .int i → atU us i = some z → rIx D.K (.ref a) y H Q := fun {us i} e ey hz => by
      obtain ⟨vs, h1, rs⟩ := g.rd f e
      obtain ⟨v, h2, h3⟩ := atI_rel rs hz
      exact .inl ⟨a, vs, i, v, rfl, ey, h1, h2, hv.here g h3⟩
    split at hz
    · split at hz
      · cases s; exact fin (.inl (by assumption)) rfl hz
      · cases hz
    · split at hz
      · cases s; exact fin (.inr (by assumption)) rfl hz
      · cases hz
    · cases hz
  | _ => cases hz
theorem sIx_eq (n d : Nat) (o : Option Int) : sIxU n d o = HT.sIx n d o := by
  cases o <;> rfl
theorem cutU_eq {us : List U} {vs : List V} (r : RelUs D φ H us vs) (lo hi : Option Int) : RelUs D φ H (cutU us lo hi) (cutV vs lo hi) := by
  unfold cutU cutV
  rw [sIx_eq, sIx_eq, r.len]
  exact (r.drop _).take _
abbrev rCut (K : PySem.W.Frag) : V → Option Int → Option Int → Hp → VK → Prop := fun x lo hi H Q => rSlL K x lo hi H Q ∨ (rSlA K x lo hi H Q ∨ rSlS x lo hi H Q)
theorem cut_ok {lo hi : Option Int} (g : Sim D φ S H) (r : RelU D φ H u x) (h : SatR D (cutE u lo hi S) (RelU D) φ H Q Ex) : rCut D.K x lo hi H Q := by
  cases r with
  | tup st rs =>
    rename_i us vs a
    dsimp only [cutE] at h
    refine .inr (.inl ⟨a, vs, rfl, st, fun q => ?_, fun _ p hp => h.newT g (cutU_eq rs lo hi) p hp⟩)
    have e : cutV vs lo hi = vs := by
      unfold cutV
      rw [q.1, q.2, List.drop_zero, Nat.sub_zero, List.take_length]
    refine h.here g (.tup (vs := cutV vs lo hi) ?_ (cutU_eq rs lo hi))
    rw [e]; exact st
  | ref f =>
    rename_i l a
    dsimp only [cutE] at h
    split at h
    · rename_i us e
      obtain ⟨vs, h1, rs⟩ := g.rd f (.inl e)
      exact .inl ⟨a, vs, rfl, h1, h.newC g (cutU_eq rs lo hi)⟩
    · rename_i us e
      obtain ⟨vs, h1, rs⟩ := g.rd f (.inr e)
      exact .inl ⟨a, vs, rfl, h1, h.newC g (cutU_eq rs lo hi)⟩
    · exact h.elim
  | str z =>
    dsimp only [cutE] at h
    split at h
    · rename_i q
      refine .inr (.inr ⟨z, rfl, by rw [sizeLine_eq]; exact q, ?_⟩)
      have e : (⟨(cutU z.cps.toList lo hi).toArray⟩ : PySem.Str) = cutS z lo hi := by
        unfold cutU cutS
        rw [sIx_eq, sIx_eq]
        rfl
      rw [← e]
      exact h.here g (.str _)
    · exact h.elim
  | _ => exact h.elim
end
end PyI
set_option Elab.async false
set_option linter.all false
set_option autoImplicit false
set_option maxRecDepth 100000
set_option maxHeartbeats 2000000
/-! Built-ins and methods of lists. -/
namespace PyI
open PySem L2
section
variable {D : Wd} {φ : List Addr} {H : Hp} {S : Store} {u w : U} {x y : V} {Q : VK} {Ex : XK}
theorem sorted_same : ∀ {a b : List Int}, a.Perm b → a.Pairwise (· ≤ ·) → b.Pairwise (· ≤ ·) → a = b
  | [], b, p, _, _ => (List.Perm.nil_eq p)
  | x :: a, [], p, _, _ => absurd p.length_eq (by simp)
  | x :: a, y :: b, p, ha, hb => by
    have e : x = y := by
      have h1 : x ∈ y :: b := p.subset List.mem_cons_self
      have h2 : y ∈ x :: a := p.symm.subset List.mem_cons_self
      rw [List.pairwise_cons] at ha hb
      rcases List.mem_cons.mp h1 with e | h1
      · exact e
      · rcases List.mem_cons.mp h2 with e | h2
        · exact e.symm
        · have a1 := ha.1 y h2
          have a2 := hb.1 x h1
          omega
    subst e
    rw [List.pairwise_cons] at ha hb
    rw [sorted_same (List.Perm.cons_inv p) ha.2 hb.2]
theorem sortI_perm (ns : List Int) : (sortI ns).Perm ns := List.mergeSort_perm ns _
theorem sortI_up (ns : List Int) : (sortI ns).Pairwise (· ≤ ·) := by
  have h := List.pairwise_mergeSort (le := fun a b : Int => decide (a ≤ b)) (fun a b c h1 h2 => by simp at *; omega) (fun a b => by simp; omega) ns
  exact h.imp (fun h => by simpa using h)
abbrev RC := List V → Hp → VK → Prop
abbrev rInt : RC := fun xs H Q => (∃ i, xs = [.int i] ∧ Q (.int i) H) ∨ ∃ k, xs = [.bl k] ∧ Q (.int (if k then 1 else 0)) H
abbrev rAbs : RC := fun xs H Q => ∃ i, xs = [.int i] ∧ Q (.int (if i < 0 then -i else i)) H
abbrev rMin2 : RC := fun xs H Q => ∃ i j, xs = [.int i, .int j] ∧ Q (.int (if j < i then j else i)) H
abbrev rMax2 : RC := fun xs H Q => (∃ i j, xs = [.int i, .int j] ∧ Q (.int (if j > i then j else i)) H) ∨ ∃ x y w z, xs = [x, y, w] ∧ nuMax3 x y w = some z ∧ Q z H
abbrev rStrI : RC := fun xs H Q => ∃ i, xs = [V.int i] ∧ i.natAbs.log2 < 1920 ∧ Q (V.str (PySem.Str.ofString (toString i))) H
abbrev rLenX (K : PySem.W.Frag) : RC := fun xs H Q => (∃ x n, xs = [x] ∧ LenV K x H n ∧ Q (.int n) H) ∨ (∃ a kvs, xs = [V.ref a] ∧ H a = some (.dK kvs) ∧ Q (.int kvs.length) H)
abbrev rListOf (K : PySem.W.Frag) : RC := fun xs H Q => ∃ p ys, xs = [.ref p] ∧ (SqL K H p ys ∨ SqT K H p ys) ∧ ∀ l, H l = none → Q (.ref l) (upd H l (.lst ys))
abbrev rTupOf (K : PySem.W.Frag) : RC := fun xs H Q => ∃ p ys, xs = [.ref p] ∧ ((SqL K H p ys ∧ ∀ l, H l = none → Q (.ref l) (upd H l (.tup ys))) ∨ (SqT K H p ys ∧ Q (.ref p) H))
abbrev rOrd : RC := fun xs H Q => ∃ x : PySem.Str, xs = [.str x] ∧ x.length = 1 ∧ Q (.int (x.cps.getD 0 0 : Nat)) H
/-- what a built-in asks -/
def rBi (K : PySem.W.Frag) : Bi → RC
  | .len => rLenX K
  | .int => rInt
  | .abs => rAbs
  | .min => rMin2
  | .max => rMax2
  | .sum => rSum K
  | .all => rAll K
  | .any => rAny K
  | .list => rListOf K
  | .tuple => rTupOf K
  | .sorted => rSortedI K
  | .ord => rOrd
  | .minL => rMin K
  | .str => rStrI
  | _ => fun _ _ _ => False
/-- its value, its name -/
def biV : Bi → Option (PySem.Str × Value)
  | .len => some ("len", .builtin "len")
  | .int => some ("int", .type "int")
  | .abs => some ("abs", .builtin "abs")
  | .min => some ("min", .builtin "min")
  | .max => some ("max", .builtin "max")
  | .sum => some ("sum", .builtin "sum")
  | .all => some ("all", .builtin "all")
  | .any => some ("any", .builtin "any")
  | .list => some ("list", .type "list")
  | .tuple => some ("tuple", .type "tuple")
  | .sorted => some ("sorted", .builtin "sorted")
  | .ord => some ("ord", .builtin "ord")
  | .minL => some ("min", .builtin "min")
  | .str => some ("str", .type "str")
  | _ => none
theorem biV_boot {b : Bi} {n : PySem.Str} {v : Value} (h : biV b = some (n, v)) : bootBuiltins n = some v ∧ n ≠ "__name__" ∧ (n == ("__debug__" : PySem.Str)) = false := by
  cases b <;> cases h <;> exact ⟨by decide +kernel, by decide, by decide⟩
theorem bi_rule {X : Cx} (hc : X.calm = true) {b : Bi} {n : PySem.Str} {v : Value} (h : biV b = some (n, v)) : CallR X v (rBi X.K b) := by
  cases b with
  | len => cases h; exact call_len.or call_lenD
  | int => cases h; exact call_int1
  | abs => cases h; exact call_abs
  | min => cases h; exact call_min2 hc
  | max => cases h; exact (call_max2 hc).or (call_max3Nu hc)
  | minL => cases h; exact cr_min hc
  | str => cases h; exact call_str_int
  | sum => cases h; exact cr_sum hc
  | all => cases h; exact cr_all hc
  | any => cases h; exact cr_any hc
  | list => cases h; exact call_list_of
  | tuple => cases h; exact call_tuple_of
  | sorted => cases h; exact cr_sortedI
  | ord => cases h; exact call_ord
  | _ => cases h
theorem RelUs.one {us : List U} {vs : List V} {u : U} (r : RelUs D φ H us vs) (e : us = [u]) : ∃ v, vs = [v] ∧ RelU D φ H u v := by
  subst e
  cases r with
  | cons a r => cases r; exact ⟨_, rfl, a⟩
theorem RelUs.two {us : List U} {vs : List V} {u w : U} (r : RelUs D φ H us vs) (e : us = [u, w]) : ∃ v z, vs = [v, z] ∧ RelU D φ H u v ∧ RelU D φ H w z := by
  subst e
  cases r with
  | cons a r => cases r with
    | cons b r => cases r; exact ⟨_, _, rfl, a, b⟩
theorem RelUs.three {us : List U} {vs : List V} {u w z : U} (r : RelUs D φ H us vs) (e : us = [u, w, z]) : ∃ v y x, vs = [v, y, x] ∧ RelU D φ H u v ∧ RelU D φ H w y ∧ RelU D φ H z x := by
  subst e
  cases r with
  | cons a r => cases r with
    | cons b r => cases r with
      | cons c r => cases r; exact ⟨_, _, _, rfl, a, b, c⟩
theorem max3_int (i j k : Int) : nuMax3 (.int i) (.int j) (.int k) = some (.int (if (if i < j then j else i) < k then k else (if i < j then j else i))) := by
  have e : ∀ i j : Int, nuLt (.int i) (.int j) = some (decide (i < j)) := fun _ _ => rfl
  unfold nuMax3 nuMax2
  by_cases h : i < j
  · by_cases h2 : j < k <;> simp [e, h, h2]
  · by_cases h2 : i < k <;> simp [e, h, h2]
theorem len_ok (g : Sim D φ S H) (r : RelU D φ H u x) {n : Nat} (h : lenU S u = some n) : LenV D.K x H n ∨ ∃ a kvs, x = V.ref a ∧ H a = some (.dK kvs) ∧ n = kvs.length := by
  cases r with
  | str a =>
    dsimp only [lenU] at h
    split at h
    · rename_i q
      cases h
      exact .inl ⟨by rw [sizeLine_eq]; exact q, rfl⟩
    · cases h
  | tup s r => cases h; exact .inl (.inr ⟨_, s, r.len⟩)
  | ref f =>
    rename_i l a
    dsimp only [lenU] at h
    split at h
    · cases h
      obtain ⟨vs, h1, h2⟩ := g.rd f (.inl (by assumption))
      exact .inl (.inl ⟨vs, h1, h2.len⟩)
    · cases h
      obtain ⟨vs, h1, h2⟩ := g.rd f (.inr (by assumption))
      exact .inl (.inl ⟨vs, h1, h2.len⟩)
    · cases h
      rename_i kvs e
      obtain ⟨gs, h1, h2⟩ := g.cell l _ a e f
      exact .inr ⟨a, gs, rfl, h1, h2.len⟩
    · cases h
  | _ => cases h
theorem bi_ok {b : Bi} {us : List U} {vs : List V} (g : Sim D φ S H) (r : RelUs D φ H us vs) (h : SatR D (biU b us S) (RelU D) φ H Q Ex) (hb : ∀ t, b ≠ .isi t) : rBi D.K b vs H Q := by
  unfold biU at h
  split at h
  · -- len
    obtain ⟨v, rfl, a⟩ := r.one rfl
    obtain ⟨z, hz, h⟩ := h.ofO
    obtain ⟨n, hn, rfl⟩ := Option.map_eq_some_iff.mp hz
    have q := h.here g (.int _)
    rcases len_ok g a hn with hl | ⟨p, kvs, rfl, h1, rfl⟩
    · exact .inl ⟨_, _, rfl, hl, q⟩
    · exact .inr ⟨_, _, rfl, h1, q⟩
  · obtain ⟨v, rfl, a⟩ := r.one rfl
    cases a
    exact .inl ⟨_, rfl, h.here g (.int _)⟩
  · obtain ⟨v, rfl, a⟩ := r.one rfl
    cases a
    exact .inr ⟨_, rfl, h.here g (.int _)⟩
  · obtain ⟨v, rfl, a⟩ := r.one rfl
    cases a
    exact ⟨_, rfl, h.here g (.int _)⟩
  · obtain ⟨v, z, rfl, a, c⟩ := r.two rfl
    cases a; cases c
    exact ⟨_, _, rfl, h.here g (.int _)⟩
  · obtain ⟨v, z, rfl, a, c⟩ := r.two rfl
    cases a; cases c
    exact .inl ⟨_, _, rfl, h.here g (.int _)⟩
  · rename_i i j k
    obtain ⟨v, z, y, rfl, a, c, d⟩ := r.three rfl
    cases a; cases c; cases d
    exact .inr ⟨_, _, _, _, rfl, max3_int i j k, h.here g (.int _)⟩
  · obtain ⟨v, rfl, a⟩ := r.one rfl
    split at h
    · rename_i m e
      obtain ⟨ns, e, hm⟩ := Option.bind_eq_some_iff.mp e
      obtain ⟨is_, e1, e2⟩ := Option.bind_eq_some_iff.mp e
      obtain ⟨p, ws, rfl, h1, h2⟩ := g.itemsL a e1
      obtain ⟨e3, _⟩ := h2.ints e2
      subst e3
      have q := h.here g (.int _)
      refine ⟨p, ns, rfl, h1, ?_, fun m' hm1 hm2 => ?_⟩
      · cases ns with
        | nil => cases hm
        | cons n ns => exact Nat.succ_pos _
      · have := List.min?_eq_some_iff.mpr ⟨hm1, hm2⟩
        rw [hm] at this
        cases this
        exact q
    · exact h.elim
  · obtain ⟨v, rfl, a⟩ := r.one rfl
    split at h
    · rename_i ns e
      obtain ⟨is_, e1, e2⟩ := Option.bind_eq_some_iff.mp e
      obtain ⟨p, ws, rfl, h1, h2⟩ := g.itemsL a e1
      obtain ⟨e3, _⟩ := h2.ints e2
      subst e3
      exact ⟨p, ns, rfl, h1, h.here g (.int _)⟩
    · exact h.elim
  · obtain ⟨v, rfl, a⟩ := r.one rfl
    split at h
    · rename_i ns e
      obtain ⟨is_, e1, e2⟩ := Option.bind_eq_some_iff.mp e
      obtain ⟨p, ws, rfl, h1, h2⟩ := g.itemsL a e1
      have e3 := h2.bls e2
      subst e3
      exact ⟨p, ns, rfl, h1, h.here g (.bl _)⟩
    · exact h.elim
  · obtain ⟨v, rfl, a⟩ := r.one rfl
    split at h
    · rename_i ns e
      obtain ⟨is_, e1, e2⟩ := Option.bind_eq_some_iff.mp e
      obtain ⟨p, ws, rfl, h1, h2⟩ := g.itemsL a e1
      have e3 := h2.bls e2
      subst e3
      exact ⟨p, ns, rfl, h1, h.here g (.bl _)⟩
    · exact h.elim
  · obtain ⟨v, rfl, a⟩ := r.one rfl
    split at h
    · rename_i is_ e
      obtain ⟨p, ws, rfl, h1, h2⟩ := g.items a e
      exact ⟨p, ws, rfl, h1, h.newC g h2⟩
    · exact h.elim
  · obtain ⟨v, rfl, a⟩ := r.one rfl
    cases a with
    | tup s r2 => exact ⟨_, _, rfl, .inr ⟨s, h.here g (.tup s r2)⟩⟩
  · obtain ⟨v, rfl, a⟩ := r.one rfl
    split at h
    · rename_i is_ e
      obtain ⟨p, ws, rfl, h1, h2⟩ := g.itemsL a e
      exact ⟨p, ws, rfl, .inl ⟨h1, h.newT g h2⟩⟩
    · exact h.elim
  · obtain ⟨v, rfl, a⟩ := r.one rfl
    split at h
    · rename_i ns e
      obtain ⟨is_, e1, e2⟩ := Option.bind_eq_some_iff.mp e
      obtain ⟨p, ws, rfl, h1, h2⟩ := g.itemsL a e1
      obtain ⟨e3, _⟩ := h2.ints e2
      subst e3
      refine ⟨p, ns, rfl, h1, fun ns' q perm up hq => ?_⟩
      have e4 : ns' = sortI ns := sorted_same (perm.trans (sortI_perm ns).symm) up (sortI_up ns)
      subst e4
      exact h.newC g (RelUs.ofInts _) q hq
    · exact h.elim
  · exact absurd rfl (hb _)
  · obtain ⟨v, rfl, a⟩ := r.one rfl
    cases a
    split at h
    · rename_i x c e
      have e2 := str_of1 e
      subst e2
      exact ⟨_, rfl, rfl, h.here g (.int _)⟩
    · exact h.elim
  · obtain ⟨v, rfl, a⟩ := r.one rfl
    cases a
    split at h
    · exact ⟨_, rfl, by assumption, h.here g (.str _)⟩
    · exact h.elim
  · exact h.elim

/-! ### isinstance -/
def tyN : Ty → Option String
  | .int => some "int"
  | .bool => some "bool"
  | .str => some "str"
  | .list => some "list"
  | .tuple => some "tuple"
  | .cls _ => none
theorem isi_ok (g : Sim D φ S H) (r : RelU D φ H u x) {t : Ty} {b : Bool} (h : isiU S u t = some b) : ∃ n m, tyN t = some n ∧ TyX D.K H x (.type m) ∧ kitB m n = some b := by
  have tupTy : ∀ {a : Addr} {vs : List V}, SqT D.K H a vs → TyX D.K H (.ref a) (.type "tuple") := fun {a vs} s => by
    rcases s with (s | ⟨o, s⟩) | ⟨o, its, n, s, c, _⟩
    · exact .base (.tup s)
    · exact .fTuple s
    · exact .kTuple s c
  cases r with
  | non => cases t <;> cases h <;> exact ⟨_, _, rfl, .base .non, by decide +kernel⟩
  | bl i => cases t <;> cases h <;> exact ⟨_, _, rfl, .base (.bl i), by decide +kernel⟩
  | int i => cases t <;> cases h <;> exact ⟨_, _, rfl, .base (.int i), by decide +kernel⟩
  | str i => cases t <;> cases h <;> exact ⟨_, _, rfl, .base (.str i), by decide +kernel⟩
  | tup s r => cases t <;> cases h <;> exact ⟨_, _, rfl, tupTy s, by decide +kernel⟩
  | ref f =>
    rename_i l a
    unfold isiU at h
    dsimp only at h
    split at h <;> first | (cases h; done) | skip
    all_goals
      rename_i e
      obtain ⟨vs, h1, _⟩ := g.cell l _ a e f
      cases h
      exact ⟨_, _, rfl, .base (.lst h1), by decide +kernel⟩
  | fn f => cases t <;> cases h

/-! ### methods -/
abbrev RM := V → List V → Hp → VK → Prop
abbrev rInsertA : RM := fun x vs H Q => ∃ (l : Addr) (xs : List V) (i : Int) (y : V), x = .ref l ∧ vs = [.int i, y] ∧ H l = some (.lst xs) ∧ xs.length < sizeLine ∧ 0 ≤ i ∧ i < 2 ^ 63 ∧ Q .non (upd H l (.lst (xs.take i.toNat ++ [y] ++ xs.drop i.toNat)))
abbrev rJoinA (K : PySem.W.Frag) : RM := fun x xs H Q => ∃ a p, ∃ ys : List PySem.Str, x = .str a ∧ xs = [.ref p] ∧ (SqL K H p (ys.map V.str) ∨ SqT K H p (ys.map V.str)) ∧ (ys.map (·.length)).sum + ys.length * a.length ≤ 16777216 ∧ Q (.str (Txt.join a ys)) H
def rBm (K : PySem.W.Frag) : Bm → RM
  | .append => rAppend
  | .extend => rExtend
  | .pop => rPop
  | .popAt => rPopAt
  | .insert => rInsertA
  | .index => rIndex K
  | .join => rJoinA K
  | _ => fun _ _ _ _ => False
theorem app_okU {us : List U} {vs : List V} (g : Sim D φ S H) (r : RelU D φ H u x) (rs : RelUs D φ H us vs) {b : Bm} (h : SatR D (bmU b u us S) (RelU D) φ H Q Ex) : rBm D.K b x vs H Q := by
  unfold bmU at h
  split at h
  · cases r with
    | ref f =>
      rename_i a
      obtain ⟨v, rfl, a1⟩ := rs.one rfl
      split at h
      · rename_i ys e
        split at h
        · rename_i q
          obtain ⟨zs, h1, r1⟩ := g.cell _ _ a e f
          have h2 : rAppend (.ref a) [v] H Q := by
            refine ⟨a, zs, v, rfl, rfl, h1, by rw [sizeLine_eq, ← r1.len]; exact q, ?_⟩
            refine h φ _ .non (List.prefix_refl _) (Tm.set h1 rfl) (g.set e f rfl rfl fun tm => ⟨_, upd_same, (r1.mono (List.prefix_refl _) tm).app (.cons (a1.mono (List.prefix_refl _) tm) .nil)⟩) .non
          exact h2
        · exact h.elim
      · exact h.elim
  · cases r with
    | ref f =>
      rename_i a
      obtain ⟨v, rfl, a1⟩ := rs.one rfl
      cases a1 with
      | ref f2 =>
        rename_i b
        split at h
        · rename_i ys zs e e2
          split at h
          · rename_i q
            obtain ⟨vs1, h1, r1⟩ := g.cell _ _ a e f
            obtain ⟨vs2, h2, r2⟩ := g.cell _ _ b e2 f2
            refine ⟨a, b, vs1, vs2, rfl, rfl, h1, h2, by rw [sizeLine_eq, ← r1.len, ← r2.len]; exact q, ?_⟩
            exact h φ _ .non (List.prefix_refl _) (Tm.set h1 rfl) (g.set e f rfl rfl fun tm => ⟨_, upd_same, (r1.mono (List.prefix_refl _) tm).app (r2.mono (List.prefix_refl _) tm)⟩) .non
          · exact h.elim
        · exact h.elim
  · cases r with
    | ref f =>
      rename_i a
      cases rs
      split at h
      · rename_i ys e
        split at h
        · rename_i z e2
          obtain ⟨vs1, h1, r1⟩ := g.cell _ _ a e f
          rw [List.getLast?_eq_getElem?] at e2
          obtain ⟨v, h2, h3⟩ := r1.at e2
          rw [r1.len] at h2
          refine ⟨a, vs1, v, rfl, rfl, h1, h2, ?_⟩
          exact h φ _ v (List.prefix_refl _) (Tm.set h1 rfl) (g.set e f rfl rfl fun tm => ⟨_, upd_same, (r1.mono (List.prefix_refl _) tm).dropLast⟩) (h3.mono (List.prefix_refl _) (Tm.set h1 rfl))
        · exact h.elim
      · exact h.elim
  · cases r with
    | ref f =>
      rename_i i a
      obtain ⟨v, rfl, a1⟩ := rs.one rfl
      cases a1
      split at h
      · rename_i ys e
        split at h
        · rename_i hi
          split at h
          · rename_i z e2
            obtain ⟨vs1, h1, r1⟩ := g.cell _ _ a e f
            obtain ⟨v, h2, h3⟩ := r1.at e2
            have hlt := (List.getElem?_eq_some_iff.mp h2).1
            refine ⟨a, vs1, i, i.toNat, v, rfl, rfl, h1, by omega, by omega, ?_, h2, ?_⟩
            · unfold seqIndex?
              simp only [show ¬ i < 0 by omega, if_false]
              rw [if_pos (by simp; omega)]
            · exact h φ _ v (List.prefix_refl _) (Tm.set h1 rfl) (g.set e f rfl rfl fun tm => ⟨_, upd_same, (r1.mono (List.prefix_refl _) tm).erase _⟩) (h3.mono (List.prefix_refl _) (Tm.set h1 rfl))
          · exact h.elim
        · exact h.elim
      · exact h.elim
  · cases r with
    | ref f =>
      rename_i i u a
      obtain ⟨v, z, rfl, a1, a2⟩ := rs.two rfl
      cases a1
      split at h
      · rename_i ys e
        split at h
        · rename_i hi
          obtain ⟨vs1, h1, r1⟩ := g.cell _ _ a e f
          refine ⟨a, vs1, i, z, rfl, rfl, h1, by rw [sizeLine_eq, ← r1.len]; exact hi.1, hi.2.1, by omega, ?_⟩
          refine h φ _ .non (List.prefix_refl _) (Tm.set h1 rfl) (g.set e f rfl rfl fun tm => ⟨_, upd_same, ?_⟩) .non
          have r2 := r1.mono (List.prefix_refl _) tm
          exact ((r2.take _).app (.cons (a2.mono (List.prefix_refl _) tm) .nil)).app (r2.drop _)
        · exact h.elim
      · exact h.elim
  · cases r with
    | ref f =>
      rename_i u l a
      obtain ⟨v, rfl, a1⟩ := rs.one rfl
      split at h
      · rename_i ys e
        split at h
        · rename_i hi
          split at h
          · rename_i jx e2
            obtain ⟨vs1, h1, r1⟩ := g.cell _ _ a e f
            obtain ⟨hlt, hz, hm⟩ := List.findIdx?_eq_some_iff_getElem.mp e2
            have hall : ∀ (m : Nat) (z' : V), vs1[m]? = some z' → ∃ w, ys[m]? = some w ∧ flU w = true ∧ eqF w _ = eqV z' v := fun m z' hz' => by
              obtain ⟨w, hw, rw_⟩ := r1.at' hz'
              have fw := List.all_eq_true.mp hi.2 w (List.mem_of_getElem? hw)
              exact ⟨w, hw, fw, eqF_ok rw_ a1 fw hi.1⟩
            obtain ⟨z, h2, h3⟩ := r1.at (List.getElem?_eq_getElem hlt)
            refine ⟨a, vs1, v, jx, z, rfl, rfl, .of h1, flV a1 hi.1, flVs r1 hi.2, h2, ?_, fun m z' hmj hz' => ?_, h.here g (.int _)⟩
            · rw [← eqF_ok h3 a1 (List.all_eq_true.mp hi.2 _ (List.getElem_mem hlt)) hi.1]
              exact hz
            · obtain ⟨w, hw, fw, e4⟩ := hall m z' hz'
              have hm1 : m < ys.length := by omega
              rw [List.getElem?_eq_getElem hm1] at hw
              cases hw
              rw [← e4]
              simpa using hm m hmj
          · exact h.elim
        · exact h.elim
      · exact h.elim
  · cases r with
    | str x =>
      obtain ⟨v, rfl, a1⟩ := rs.one rfl
      split at h
      · rename_i ys e
        split at h
        · rename_i hz
          obtain ⟨is_, e1, e2⟩ := Option.bind_eq_some_iff.mp e
          obtain ⟨p, ws, rfl, h1, h2⟩ := g.itemsL a1 e1
          have e3 := h2.strs e2
          subst e3
          exact ⟨_, p, ys, rfl, rfl, .inl h1, hz, h.here g (.str _)⟩
        · exact h.elim
      · exact h.elim
  · exact h.elim
end
end PyI
set_option Elab.async false
set_option linter.all false
set_option autoImplicit false
set_option maxRecDepth 100000
set_option maxHeartbeats 2000000
/-! The readings of the small machine, and one rule for each construct. -/
namespace PyI
open PySem L2

/-- the names of a def, its scope -/
structure Cfg where
  N : List PySem.Str
  sc : Scope
  st : PySem.Str → Bool
  calm : Bool
  top : Bool
/-- the names of the program -/
structure Gc where
  fnm : List (Option PySem.Str)
  gnm : List PySem.Str
  cnm : List PySem.Str
  free : List PySem.Str
  exs : List (Nat × List Nat) := []
def spI (D : Wd) (cf : Nat → List U → Store → R U) (f : Nat) : Sp := fun vs H Q E => ∃ φ S us, Sim D φ S H ∧ RelUs D φ H us vs ∧ SatR D (cf f us S) (RelU D) φ H Q E
structure CxOk (D : Wd) (G : Gc) (P : Pg) (cf : Nat → List U → Store → R U) (j : Nat) (C : Cfg) (W : WX) (X : Cx) : Prop where
  K : X.K = D.K
  N : X.N = C.N
  nd : C.N.Nodup
  sc : X.env.scope = C.sc
  calm : C.calm = true → X.calm = true
  room : C.calm = true → Room (j + 1) X.A
  tk : Takes X W
  po : PassesOwn (model X.prog X.w) X.A X.env X.xe
  fnS : ∀ x, C.st x = true → X.fn x = true
  fr : ∀ x ∈ G.free, X.mg x = none
  gl : ∀ (g : Nat) (x : PySem.Str) (u : U), G.gnm[g]? = some x → P.glo[g]? = some u → ∃ val, X.mg x = some val ∧ ∀ φ H, ∃ v, RelU D φ H u v ∧ RelV v val
  top : C.top = true → X.stack = X.env :: X.outer ∧ X.env.frame = some X.env.locals
  exs : P.excs = G.exs
  noi : ∀ c as, G.exs.lookup c = some as → P.inits.lookup c = none
  exc : ∀ (c : Nat) (x : PySem.Str) (as : List Nat), G.cnm[c]? = some x → G.exs.lookup c = some as → X.mg x = some (.ref (D.cA c)) ∧ PySem.W.excIn X.K (D.cA c) [.type "ValueError", .type "Exception", .type "BaseException", .type "object"] "ValueError.__new__" = true ∧ PySem.W.keepIn X.K (.ref (D.cA c)) = true ∧ Raises X (.ref (D.cA c))
  exm : ∀ (c c' : Nat) (as as' : List Nat), G.exs.lookup c = some as → G.exs.lookup c' = some as' → PySem.W.exmOne X.K (.ref (D.cA c)) (.ref (D.cA c')) = some (decide (c' ∈ as))
  fns : ∀ (f : Nat) (x : PySem.Str), G.fnm[f]? = some (some x) → ∃ fd ps, FnOk X.prog X.w X.K X.mg X.base (L2.CX X.prog X.w) j (D.fA f) fd ps (spI D cf f) ∧ X.mg x = some (.ref (D.fA f)) ∧ PySem.W.keepIn X.K (.ref (D.fA f)) = true ∧ Binds X.K fd ps []

section
variable (D : Wd) (P : Pg) (cf : Nat → List U → Store → R U) (W : WX)
def tI (e : E) : TE := fun σ H Q => ∃ φ env S, Sim D φ S H ∧ RelE D φ H env σ ∧ SatR D (ev P cf e env S) (RelU D) φ H Q (fun c d H1 => W c d σ H1)
def tIs (es : Es) : TA := fun σ H Q => ∃ φ env S, Sim D φ S H ∧ RelE D φ H env σ ∧ SatR D (evs P cf es env S) (RelUs D) φ H Q (fun c d H1 => W c d σ H1)
def tIt (e : E) : TT := fun σ H Q => ∃ φ env S, Sim D φ S H ∧ RelE D φ H env σ ∧ SatR D (evt P cf e env S) (fun _ _ (a b : Bool) => a = b) φ H Q (fun c d H1 => W c d σ H1)
def tIc (e : Eo) : TT := fun σ H Q => ∃ φ env S, Sim D φ S H ∧ RelE D φ H env σ ∧ SatR D (evc P cf e env S) (fun _ _ (a b : Bool) => a = b) φ H Q (fun c d H1 => W c d σ H1)
def tIo (e : Eo) : TO := fun σ H Q => ∃ φ env S, Sim D φ S H ∧ RelE D φ H env σ ∧ SatR D (evo P cf e env S) (fun _ _ (a b : Option Int) => a = b) φ H Q (fun c d H1 => W c d σ H1)
end
/-- what an iterator hands out -/
def RelQ (D : Wd) (φ : List Addr) (H : Hp) (q : Sq) (J : L2.It) : Prop := ∀ (φ1 : List Addr) (S1 : Store) (H1 : Hp), φ <+: φ1 → Tm D H H1 → Sim D φ1 S1 H1 → okW q.watch S1 = true →
  (∀ i, q.items.length ≤ i → J.stop i H1) ∧ ∀ (i : Nat) (u : U), q.items[i]? = some u → J.go i H1 ∧ ∀ x H2, J.yld i H1 x H2 → Tm D H1 H2 ∧ Sim D φ1 S1 H2 ∧ RelU D φ1 H2 u x
def tIq (D : Wd) (P : Pg) (cf : Nat → List U → Store → R U) (W : WX) (it : It) : TI := fun σ H Q => ∃ φ env S, Sim D φ S H ∧ RelE D φ H env σ ∧ SatR D (evi P cf it env S) (RelQ D) φ H Q (fun c d H1 => W c d σ H1)

theorem PE.imp {X : Cx} {e : Expr} {t t' : TE} (h : PE X e t) (k : ∀ σ H Q, t' σ H Q → t σ H Q) : PE X e t' := ⟨fun pins s σ H Q I q => h.run pins s σ H Q I (k _ _ _ q)⟩
theorem PT.imp {X : Cx} {e : Expr} {t t' : TT} (h : PT X e t) (k : ∀ σ H Q, t' σ H Q → t σ H Q) : PT X e t' := ⟨fun pins s σ H Q I q => h.run pins s σ H Q I (k _ _ _ q)⟩
theorem PW.imp {X : Cx} {e : Expr} {t t' : TT} (h : PW X e t) (k : ∀ σ H Q, t' σ H Q → t σ H Q) : PW X e t' := ⟨fun wh pins s σ H Q I q => h.run wh pins s σ H Q I (k _ _ _ q)⟩
theorem PA.imp {X : Cx} {e : List Expr} {t t' : TA} (h : PA X e t) (k : ∀ σ H Q, t' σ H Q → t σ H Q) : PA X e t' := ⟨fun p pins s σ H Q I q => h.run p pins s σ H Q I (k _ _ _ q)⟩
theorem PO.imp {X : Cx} {e : Option Expr} {t t' : TO} (h : PO X e t) (k : ∀ σ H Q, t' σ H Q → t σ H Q) : PO X e t' := by
  constructor
  intros
  apply h.run
  · assumption
  · exact k _ _ _ (by assumption)
theorem PI.imp {X : Cx} {tg e : Expr} {t t' : TI} (h : PI X tg e t) (k : ∀ σ H Q, t' σ H Q → t σ H Q) : PI X tg e t' := ⟨fun pins s σ H Q I q => h.run pins s σ H Q I (k _ _ _ q)⟩
theorem PI.or {X : Cx} {tg e : Expr} {t t' : TI} (h : PI X tg e t) (h' : PI X tg e t') : PI X tg e (fun σ H R => t σ H R ∨ t' σ H R) := ⟨fun pins s σ H Q I q => q.elim (h.run pins s σ H Q I) (h'.run pins s σ H Q I)⟩
theorem PTs.imp {X : Cx} {e : List Expr} {t t' : TT} (h : PTs X e t) (k : ∀ σ H Q, t' σ H Q → t σ H Q) : PTs X e t' := ⟨fun pins s σ H Q I q => h.run pins s σ H Q I (k _ _ _ q)⟩

def starB : Expr → Bool
  | .Starred _ _ => true
  | _ => false
theorem star_cons {e : Expr} {es : List Expr} {env : PySem.Env} (h : starB e = false) : starEach (e :: es) env = (false, eval e env) :: starEach es env := by
  cases e <;> first | rfl | cases h
theorem star_any {pos : Pos} {env : PySem.Env} : ∀ {es : List Expr}, es.all (fun e => !starB e) = true → (backTo pos (starEach es env)).any (·.1) = false
  | [], _ => rfl
  | e :: es, h => by
    rw [List.all_cons, Bool.and_eq_true] at h
    have ih := star_any (pos := pos) (env := env) h.2
    rw [star_cons (by simpa using h.1)]
    unfold backTo at ih ⊢
    simp at ih ⊢
    exact ih

section
variable {D : Wd} {G : Gc} {P : Pg} {cf : Nat → List U → Store → R U} {j : Nat} {C : Cfg} {W : WX} {X : Cx}
/-! ### names, constants -/
def visB (sc : Scope) (x : PySem.Str) : Bool := match sc.names.lookup x with
  | some .local => true
  | some .cell => true
  | some .free => true
  | _ => false
theorem vis_of {sc : Scope} {x : PySem.Str} (h : visB sc x = true) : Vis sc x := by
  unfold visB at h
  split at h
  · exact .inl (by assumption)
  · exact .inr (.inl (by assumption))
  · exact .inr (.inr (by assumption))
  · cases h
def varB (C : Cfg) (i : Nat) (x : PySem.Str) : Bool := decide (C.N[i]? = some x) && visB C.sc x && !(x == ("__debug__" : PySem.Str)) && !(x == ("__classdict__" : PySem.Str))
theorem ie_var (ok : CxOk D G P cf j C W X) {i : Nat} {x : PySem.Str} {pos : Pos} (h : varB C i x = true) : PE X (.Name x pos) (tI D P cf W (.var i)) := by
  unfold varB at h
  simp only [Bool.and_eq_true, decide_eq_true_eq, Bool.not_eq_true'] at h
  obtain ⟨⟨⟨h1, h2⟩, h3⟩, h4⟩ := h
  refine PE.imp (pe_var (i := i) (by rw [ok.N]; exact h1) (by rw [ok.sc]; exact vis_of h2) h3 h4) fun σ H Q ⟨φ, env, S, g, e, q⟩ => ?_
  unfold ev at q
  split at q
  · rename_i u hu
    obtain ⟨v, h5, h6⟩ := e.at_ i u hu
    exact ⟨v, h5, q.here g h6⟩
  · exact q.elim
theorem ie_int {i : Int} {k : Nat} {pos : Pos} : PE X (.Constant (.int i) k pos) (tI D P cf W (.int i)) := PE.imp pe_int fun σ H Q ⟨φ, env, S, g, e, q⟩ => SatR.here (u := U.int i) (by unfold ev at q; exact q) g (RelU.int i)
theorem ie_str {i : PySem.Str} {k : Nat} {pos : Pos} : PE X (.Constant (.str i) k pos) (tI D P cf W (.str i)) := PE.imp pe_str fun σ H Q ⟨φ, env, S, g, e, q⟩ => SatR.here (u := U.str i) (by unfold ev at q; exact q) g (RelU.str i)
theorem ie_bl {i : Bool} {k : Nat} {pos : Pos} : PE X (.Constant (.bool i) k pos) (tI D P cf W (.bl i)) := PE.imp pe_bl fun σ H Q ⟨φ, env, S, g, e, q⟩ => SatR.here (u := U.bl i) (by unfold ev at q; exact q) g (RelU.bl i)
theorem ie_non {k : Nat} {pos : Pos} : PE X (.Constant .none k pos) (tI D P cf W .non) := PE.imp pe_non fun σ H Q ⟨φ, env, S, g, e, q⟩ => SatR.here (u := U.non) (by unfold ev at q; exact q) g RelU.non
def gloB (C : Cfg) (x : PySem.Str) : Bool := decide (C.sc.names.lookup x = some .globalImplicit) && !(x == ("__debug__" : PySem.Str))
theorem glo_of (ok : CxOk D G P cf j C W X) {x : PySem.Str} (h : gloB C x = true) : Gl X x ∧ (x == ("__debug__" : PySem.Str)) = false := by
  unfold gloB at h
  simp only [Bool.and_eq_true, decide_eq_true_eq, Bool.not_eq_true'] at h
  refine ⟨?_, h.2⟩
  show X.env.scope.names.lookup x = some .globalImplicit
  rw [ok.sc]
  exact h.1
theorem ie_glo (ok : CxOk D G P cf j C W X) {i : Nat} {x : PySem.Str} {pos : Pos} (h : G.gnm[i]? = some x) (h2 : gloB C x = true) : PE X (.Name x pos) (tI D P cf W (.glo i)) := by
  obtain ⟨hg, hd⟩ := glo_of ok h2
  cases hu : P.glo[i]? with
  | none => 
    refine ⟨fun pins s σ H Q I ⟨φ, env, S, g, e, q⟩ => ?_⟩
    unfold ev at q
    rw [hu] at q
    exact q.elim
  | some u =>
    obtain ⟨val, h3, h4⟩ := ok.gl i x u h hu
    refine ⟨fun pins s σ H Q I ⟨φ, env, S, g, e, q⟩ => ?_⟩
    obtain ⟨v, h5, h6⟩ := h4 φ H
    unfold ev at q
    rw [hu] at q
    exact (pe_glob hg h3 h6 hd).run pins s σ H Q I (SatR.here (u := u) q g h5)
theorem ie_fnv (ok : CxOk D G P cf j C W X) {i : Nat} {x : PySem.Str} {pos : Pos} (h : G.fnm[i]? = some (some x)) (h2 : gloB C x = true) : PE X (.Name x pos) (tI D P cf W (.fnv i)) := by
  obtain ⟨hg, hd⟩ := glo_of ok h2
  obtain ⟨fd, ps, _, h3, _⟩ := ok.fns i x h
  refine PE.imp (pe_glob (v := .ref (D.fA i)) hg h3 rfl hd) fun σ H Q ⟨φ, env, S, g, e, q⟩ => ?_
  unfold ev at q
  exact q.here g (.fn i)

/-! ### operators -/
theorem ie_op {op : Operator} {o : Bop} {a b : E} {x y : Expr} {pos : Pos} {r : R2} (ho : OpR X (binaryOp op) r) (hr : ∀ {φ : List Addr} {H : Hp} {S : Store} {u w : U} {x y : V} {Q : VK} {Ex : XK}, Sim D φ S H → RelU D φ H u x → RelU D φ H w y → SatR D (binU o u w S) (RelU D) φ H Q Ex → r x y H Q)
    (ha : PE X x (tI D P cf W a)) (hb : PE X y (tI D P cf W b)) : PE X (.BinOp x op y pos) (tI D P cf W (.bin o a b)) := by
  refine PE.imp (pe_op ho ha hb) fun σ H Q ⟨φ, env, S, g, e, q⟩ => ?_
  unfold ev at q
  refine ⟨φ, env, S, g, e, q.bind fun u S1 φ1 H1 v _ p1 t1 g1 r1 q1 => ?_⟩
  refine ⟨φ1, env, S1, g1, e.mono p1 t1, q1.bind fun w S2 φ2 H2 z _ p2 t2 g2 r2 q2 => ?_⟩
  exact hr g2 (r1.mono p2 t2) r2 q2
theorem ie_neg {a : E} {x : Expr} {pos : Pos} (ha : PE X x (tI D P cf W a)) : PE X (.UnaryOp .USub x pos) (tI D P cf W (.neg a)) := by
  refine PE.imp (pe_un un_neg ha) fun σ H Q ⟨φ, env, S, g, e, q⟩ => ?_
  unfold ev at q
  refine ⟨φ, env, S, g, e, q.bind fun u S1 φ1 H1 v _ p1 t1 g1 r1 q1 => ?_⟩
  cases r1 with
  | int i => exact ⟨i, rfl, q1.here g1 (.int _)⟩
  | _ => exact q1.elim
abbrev CmpS (D : Wd) (o : Cop) (r : R2) : Prop := ∀ {φ : List Addr} {H : Hp} {S : Store} {u w : U} {x y : V} {Q : VK} {Ex : XK}, Sim D φ S H → RelU D φ H u x → RelU D φ H w y → SatR D (ofO S ((cmpU S o u w).map .bl)) (RelU D) φ H Q Ex → r x y H Q
theorem ie_cmp {op : CmpOp} {o : Cop} {a b : E} {x y : Expr} {pos : Pos} {r : R2} (ho : OpR X (compareOp op) r) (hr : CmpS D o r)
    (ha : PE X x (tI D P cf W a)) (hb : PE X y (tI D P cf W b)) (hm : behindInMarks op y = false) : PE X (.Compare x [op] [y] pos) (tI D P cf W (.cmp o a b)) := by
  refine PE.imp (pe_cmpR ho ha hb hm) fun σ H Q ⟨φ, env, S, g, e, q⟩ => ?_
  unfold ev at q
  refine ⟨φ, env, S, g, e, q.bind fun u S1 φ1 H1 v _ p1 t1 g1 r1 q1 => ?_⟩
  refine ⟨φ1, env, S1, g1, e.mono p1 t1, q1.bind fun w S2 φ2 H2 z _ p2 t2 g2 r2 q2 => ?_⟩
  exact hr g2 (r1.mono p2 t2) r2 q2
theorem R.bind_assoc {α β γ : Type} (r : R α) (f : α → Store → R β) (h : β → Store → R γ) : (r.bind f).bind h = r.bind fun a S => (f a S).bind h := by
  cases r <;> rfl
/-- a test's answer by its value's rule -/
theorem tru_bl {φ : List Addr} {H : Hp} {S : Store} {o : Option Bool} {Q : Bool → Hp → Prop} {Ex : XK} (q : SatR D ((ofO S (o.map U.bl)).bind fun x S => tru S x) (fun _ _ (a b : Bool) => a = b) φ H Q Ex) : SatR D (ofO S (o.map .bl)) (RelU D) φ H (fun z H' => ∃ k, z = .bl k ∧ Q k H') Ex := by
  cases o with
  | none => exact q.elim
  | some k =>
    intro φ3 H3 v p3 t3 g3 r3
    cases r3
    exact ⟨k, rfl, q φ3 H3 k p3 t3 g3 rfl⟩
theorem it_cmp {op : CmpOp} {o : Cop} {a b : E} {x y : Expr} {pos : Pos} {r : R2} (ho : OpR X (compareOp op) r) (hr : CmpS D o r)
    (ha : PE X x (tI D P cf W a)) (hb : PE X y (tI D P cf W b)) (hm : behindInMarks op y = false) : PT X (.Compare x [op] [y] pos) (tIt D P cf W (.cmp o a b)) := by
  refine PT.imp (pt_cmpR ho ha hb hm) fun σ H Q ⟨φ, env, S, g, e, q⟩ => ?_
  unfold evt ev at q
  rw [R.bind_assoc] at q
  refine ⟨φ, env, S, g, e, q.bind fun u S1 φ1 H1 v _ p1 t1 g1 r1 q1 => ?_⟩
  rw [R.bind_assoc] at q1
  refine ⟨φ1, env, S1, g1, e.mono p1 t1, q1.bind fun w S2 φ2 H2 z _ p2 t2 g2 r2 q2 => ?_⟩
  exact hr g2 (r1.mono p2 t2) r2 (tru_bl q2)
/-- a truth value of the first comparison, then the second -/
theorem cmp_bl {φ : List Addr} {H : Hp} {S : Store} {o : Cop} {u w : U} {x y : V} {r : R2} (hr : CmpS D o r) (g : Sim D φ S H) (r1 : RelU D φ H u x) (r2 : RelU D φ H w y) {k : Bool} (hk : cmpU S o u w = some k) {Q : VK}
    (h : ∀ φ1 H1, φ <+: φ1 → Tm D H H1 → Sim D φ1 S H1 → Q (.bl k) H1) : r x y H Q := by
  refine hr (Ex := fun _ _ _ => True) g r1 r2 ?_
  rw [hk]
  intro φ1 H1 v p t g1 r3
  cases r3
  exact h φ1 H1 p t g1
theorem ie_cmp2 {op op' : CmpOp} {o p : Cop} {a b c : E} {x y z : Expr} {pos : Pos} {r r' : R2} (ho : OpR X (compareOp op) r) (hr : CmpS D o r) (ho' : OpR X (compareOp op') r') (hr' : CmpS D p r')
    (ha : PE X x (tI D P cf W a)) (hb : PE X y (tI D P cf W b)) (hc : PE X z (tI D P cf W c)) (hm : lastMarks [op, op'] [y, z] = false) : PE X (.Compare x [op, op'] [y, z] pos) (tI D P cf W (.cmp2 o p a b c)) := by
  refine PE.imp (pe_chain ho ho' ha hb hc hm) fun σ H Q ⟨φ, env, S, g, e, q⟩ => ?_
  unfold ev at q
  refine ⟨φ, env, S, g, e, q.bind fun u S1 φ1 H1 v _ p1 t1 g1 r1 q1 => ?_⟩
  refine ⟨φ1, env, S1, g1, e.mono p1 t1, q1.bind fun w S2 φ2 H2 v2 _ p2 t2 g2 r2 q2 => ?_⟩
  cases hk : cmpU S2 o u w with
  | none => rw [hk] at q2; exact q2.elim
  | some k =>
    rw [hk] at q2
    refine cmp_bl hr g2 (r1.mono p2 t2) r2 hk fun φ3 H3 p3 t3 g3 => ⟨k, rfl, ?_⟩
    cases k with
    | false => exact SatR.here (u := U.bl false) (q2.mono p3 t3) g3 (RelU.bl false)
    | true =>
      rw [if_pos rfl]
      have q3 := q2.mono p3 t3
      refine ⟨φ3, env, S2, g3, e.mono (p1.trans (p2.trans p3)) (t1.trans (t2.trans t3)), q3.bind fun w2 S4 φ4 H4 v4 _ p4 t4 g4 r4 q4 => ?_⟩
      exact hr' g4 (r2.mono (p3.trans p4) (t3.trans t4)) r4 q4
theorem it_cmp2 {op op' : CmpOp} {o p : Cop} {a b c : E} {x y z : Expr} {pos : Pos} {r r' : R2} (ho : OpR X (compareOp op) r) (hr : CmpS D o r) (ho' : OpR X (compareOp op') r') (hr' : CmpS D p r')
    (ha : PE X x (tI D P cf W a)) (hb : PE X y (tI D P cf W b)) (hc : PE X z (tI D P cf W c)) (hm : lastMarks [op, op'] [y, z] = false) : PT X (.Compare x [op, op'] [y, z] pos) (tIt D P cf W (.cmp2 o p a b c)) := by
  refine PT.imp (pt_chain ho ho' ha hb hc hm) fun σ H Q ⟨φ, env, S, g, e, q⟩ => ?_
  unfold evt ev at q
  rw [R.bind_assoc] at q
  refine ⟨φ, env, S, g, e, q.bind fun u S1 φ1 H1 v _ p1 t1 g1 r1 q1 => ?_⟩
  rw [R.bind_assoc] at q1
  refine ⟨φ1, env, S1, g1, e.mono p1 t1, q1.bind fun w S2 φ2 H2 v2 _ p2 t2 g2 r2 q2 => ?_⟩
  cases hk : cmpU S2 o u w with
  | none => rw [hk] at q2; exact q2.elim
  | some k =>
    rw [hk] at q2
    refine cmp_bl hr g2 (r1.mono p2 t2) r2 hk fun φ3 H3 p3 t3 g3 => ⟨k, rfl, ?_⟩
    cases k with
    | false =>
      refine ⟨false, rfl, ?_⟩
      exact SatR.here (D := D) (φ := φ3) (u := false) (S := S2) (rel := fun _ _ (a b : Bool) => a = b) (SatR.mono (r := R.val false S2) q2 p3 t3) g3 rfl
    | true =>
      rw [if_pos rfl]
      dsimp only at q2
      rw [R.bind_assoc] at q2
      have q3 := q2.mono p3 t3
      refine ⟨φ3, env, S2, g3, e.mono (p1.trans (p2.trans p3)) (t1.trans (t2.trans t3)), q3.bind fun w2 S4 φ4 H4 v4 _ p4 t4 g4 r4 q4 => ?_⟩
      exact hr' g4 (r2.mono (p3.trans p4) (t3.trans t4)) r4 (tru_bl q4)

/-! ### and, or, not, if -/
theorem tru_ok2 {φ : List Addr} {H : Hp} {S : Store} {u : U} {x : V} {Q : Bool → Hp → Prop} {Ex : XK} (g : Sim D φ S H) (r : RelU D φ H u x) (q : SatR D (tru S u) (fun _ _ (a b : Bool) => a = b) φ H Q Ex) : ∃ k, TruV D.K x H k ∧ Q k H := by
  obtain ⟨k, hk, q⟩ := SatR.ofO q
  exact ⟨k, truV_ok g r hk, q.here g rfl⟩
/-- a test by its value -/
theorem it_val {a : E} {x : Expr} (hK : X.K = D.K) (ha : PE X x (tI D P cf W a)) (hx : ∀ whole, isTrue x X.env whole = (do let v ← whole; standAt x.pos; holding [v] (truthy v))) : PT X x (tIt D P cf W a) := by
  refine PT.imp (pt_truth ha hx) fun σ H Q ⟨φ, env, S, g, e, q⟩ => ?_
  unfold evt at q
  refine ⟨φ, env, S, g, e, q.bind fun u S1 φ1 H1 v _ p1 t1 g1 r1 q1 => ?_⟩
  rw [hK]
  exact tru_ok2 g1 r1 q1
theorem ie_and {a b : E} {x y : Expr} {r : List Expr} {pos : Pos} (hK : X.K = D.K) (ha : PE X x (tI D P cf W a)) (hb : PE X (.BoolOp .And (y :: r) pos) (tI D P cf W b)) : PE X (.BoolOp .And (x :: y :: r) pos) (tI D P cf W (.and a b)) := by
  refine PE.imp (pe_andT ha hb) fun σ H Q ⟨φ, env, S, g, e, q⟩ => ?_
  unfold ev at q
  refine ⟨φ, env, S, g, e, q.bind fun u S1 φ1 H1 v _ p1 t1 g1 r1 q1 => ?_⟩
  cases hk : truU S1 u with
  | none => rw [hk] at q1; exact q1.elim
  | some k =>
    rw [hk] at q1
    refine ⟨k, by rw [hK]; exact truV_ok g1 r1 hk, ?_⟩
    cases k with
    | true => rw [if_pos rfl]; exact ⟨φ1, env, S1, g1, e.mono p1 t1, q1⟩
    | false => rw [if_neg Bool.false_ne_true]; exact SatR.here (u := u) q1 g1 r1
theorem ie_or {a b : E} {x y : Expr} {r : List Expr} {pos : Pos} (hK : X.K = D.K) (ha : PE X x (tI D P cf W a)) (hb : PE X (.BoolOp .Or (y :: r) pos) (tI D P cf W b)) : PE X (.BoolOp .Or (x :: y :: r) pos) (tI D P cf W (.or a b)) := by
  refine PE.imp (pe_orT ha hb) fun σ H Q ⟨φ, env, S, g, e, q⟩ => ?_
  unfold ev at q
  refine ⟨φ, env, S, g, e, q.bind fun u S1 φ1 H1 v _ p1 t1 g1 r1 q1 => ?_⟩
  cases hk : truU S1 u with
  | none => rw [hk] at q1; exact q1.elim
  | some k =>
    rw [hk] at q1
    refine ⟨k, by rw [hK]; exact truV_ok g1 r1 hk, ?_⟩
    cases k with
    | false => rw [if_neg Bool.false_ne_true]; exact ⟨φ1, env, S1, g1, e.mono p1 t1, q1⟩
    | true => rw [if_pos rfl]; exact SatR.here (u := u) q1 g1 r1
theorem ie_not {a : E} {x : Expr} {pos : Pos} (hK : X.K = D.K) (ha : PE X x (tI D P cf W a)) : PE X (.UnaryOp .Not x pos) (tI D P cf W (.not a)) := by
  refine PE.imp (pe_notT ha) fun σ H Q ⟨φ, env, S, g, e, q⟩ => ?_
  unfold ev at q
  refine ⟨φ, env, S, g, e, q.bind fun u S1 φ1 H1 v _ p1 t1 g1 r1 q1 => ?_⟩
  obtain ⟨z, hz, q1⟩ := q1.ofO
  obtain ⟨k, hk, rfl⟩ := Option.map_eq_some_iff.mp hz
  exact ⟨k, by rw [hK]; exact truV_ok g1 r1 hk, q1.here g1 (.bl _)⟩
theorem it_and {a b : E} {x y : Expr} {r : List Expr} {pos : Pos} (ha : PT X x (tIt D P cf W a)) (hb : PW X (.BoolOp .And (y :: r) pos) (tIt D P cf W b)) : PW X (.BoolOp .And (x :: y :: r) pos) (tIt D P cf W (.and a b)) := by
  refine PW.imp (pw_and ha hb) fun σ H Q ⟨φ, env, S, g, e, q⟩ => ?_
  unfold evt ev at q
  rw [R.bind_assoc] at q
  refine ⟨φ, env, S, g, e, ?_⟩
  unfold evt
  have q2 : SatR D (((ev P cf a env S).bind fun x S => tru S x).bind fun k S => if k = true then evt P cf b env S else .val false S) (fun _ _ (a b : Bool) => a = b) φ H Q (fun c d H1 => W c d σ H1) := by
    rw [R.bind_assoc]
    cases h1 : ev P cf a env S with
    | val u S1 =>
      rw [h1] at q
      cases hk : truU S1 u with
      | none =>
        simp only [R.bind, hk] at q
        exact q.elim
      | some k =>
        cases k with
        | true =>
          simp only [R.bind, hk] at q
          simp only [R.bind, tru, hk, ofO, if_true]
          exact q
        | false =>
          simp only [R.bind, hk] at q
          simp only [R.bind, tru, hk, ofO, Bool.false_eq_true, if_false]
          simp only [tru, hk, ofO] at q
          exact q
    | exc c d S1 => rw [h1] at q; exact q
    | stuck => rw [h1] at q; exact q
  refine q2.bind fun k S1 φ1 H1 k' _ p1 t1 g1 r1 q1 => ?_
  subst r1
  cases k with
  | true => rw [if_pos rfl]; exact ⟨φ1, env, S1, g1, e.mono p1 t1, q1⟩
  | false => rw [if_neg Bool.false_ne_true]; exact SatR.here (rel := fun _ _ (a b : Bool) => a = b) (u := false) q1 g1 rfl
theorem it_or {a b : E} {x y : Expr} {r : List Expr} {pos : Pos} (ha : PT X x (tIt D P cf W a)) (hb : PW X (.BoolOp .Or (y :: r) pos) (tIt D P cf W b)) : PW X (.BoolOp .Or (x :: y :: r) pos) (tIt D P cf W (.or a b)) := by
  refine PW.imp (pw_or ha hb) fun σ H Q ⟨φ, env, S, g, e, q⟩ => ?_
  unfold evt ev at q
  rw [R.bind_assoc] at q
  refine ⟨φ, env, S, g, e, ?_⟩
  unfold evt
  have q2 : SatR D (((ev P cf a env S).bind fun x S => tru S x).bind fun k S => if k = true then .val true S else evt P cf b env S) (fun _ _ (a b : Bool) => a = b) φ H Q (fun c d H1 => W c d σ H1) := by
    rw [R.bind_assoc]
    cases h1 : ev P cf a env S with
    | val u S1 =>
      rw [h1] at q
      cases hk : truU S1 u with
      | none =>
        simp only [R.bind, hk] at q
        exact q.elim
      | some k =>
        cases k with
        | false =>
          simp only [R.bind, hk] at q
          simp only [R.bind, tru, hk, ofO, Bool.false_eq_true, if_false]
          exact q
        | true =>
          simp only [R.bind, hk] at q
          simp only [R.bind, tru, hk, ofO, if_true]
          simp only [tru, hk, ofO] at q
          exact q
    | exc c d S1 => rw [h1] at q; exact q
    | stuck => rw [h1] at q; exact q
  refine q2.bind fun k S1 φ1 H1 k' _ p1 t1 g1 r1 q1 => ?_
  subst r1
  cases k with
  | false => rw [if_neg Bool.false_ne_true]; exact ⟨φ1, env, S1, g1, e.mono p1 t1, q1⟩
  | true => rw [if_pos rfl]; exact SatR.here (rel := fun _ _ (a b : Bool) => a = b) (u := true) q1 g1 rfl
theorem it_not {a : E} {x : Expr} {pos : Pos} (ha : PT X x (tIt D P cf W a)) : PT X (.UnaryOp .Not x pos) (tIt D P cf W (.not a)) := by
  refine PT.imp (pt_not ha) fun σ H Q ⟨φ, env, S, g, e, q⟩ => ?_
  refine ⟨φ, env, S, g, e, ?_⟩
  unfold evt ev at q
  unfold evt
  rw [R.bind_assoc] at q
  cases h1 : ev P cf a env S with
  | val u S1 =>
    rw [h1] at q
    have q : SatR D ((ofO S1 ((truU S1 u).map fun b => U.bl (!b))).bind fun x S => tru S x) (fun _ _ (a b : Bool) => a = b) φ H Q (fun c d H1 => W c d σ H1) := q
    show SatR D (ofO S1 (truU S1 u)) _ _ _ _ _
    cases hk : truU S1 u with
    | none => rw [hk] at q; exact q.elim
    | some k =>
      rw [hk] at q
      intro φ1 H1 k' p t g1 r
      subst r
      exact q φ1 H1 _ p t g1 rfl
  | exc c d S1 => rw [h1] at q; exact q
  | stuck => rw [h1] at q; exact q
theorem ie_ife {c a b : E} {z x y : Expr} {pos : Pos} (hc : PT X z (tIt D P cf W c)) (ha : PE X x (tI D P cf W a)) (hb : PE X y (tI D P cf W b)) : PE X (.IfExp z x y pos) (tI D P cf W (.ife c a b)) := by
  refine PE.imp (pe_ifExp hc ha hb) fun σ H Q ⟨φ, env, S, g, e, q⟩ => ?_
  unfold ev at q
  refine ⟨φ, env, S, g, e, ?_⟩
  have q2 : SatR D ((evt P cf c env S).bind fun k S => if k = true then ev P cf a env S else ev P cf b env S) (RelU D) φ H Q (fun c d H1 => W c d σ H1) := by
    unfold evt
    rw [R.bind_assoc]
    cases h1 : ev P cf c env S with
    | val u S1 =>
      rw [h1] at q
      cases hk : truU S1 u with
      | none => simp only [R.bind, hk] at q; exact q.elim
      | some k =>
        simp only [R.bind, hk] at q
        simp only [R.bind, tru, hk, ofO]
        cases k
        · simp only [Bool.false_eq_true, if_false]; exact q
        · simp only [if_true]; exact q
    | exc c d S1 => rw [h1] at q; exact q
    | stuck => rw [h1] at q; exact q
  refine q2.bind fun k S1 φ1 H1 k' _ p1 t1 g1 r1 q1 => ?_
  subst r1
  cases k with
  | true => rw [if_pos rfl]; exact ⟨φ1, env, S1, g1, e.mono p1 t1, q1⟩
  | false => rw [if_neg Bool.false_ne_true]; exact ⟨φ1, env, S1, g1, e.mono p1 t1, q1⟩
end
end PyI
set_option Elab.async false
set_option linter.all false
set_option autoImplicit false
set_option maxRecDepth 100000
set_option maxHeartbeats 2000000
/-! Displays, items, calls, built-ins, what is walked, comprehensions. -/
namespace PyI
open PySem L2
section
variable {D : Wd} {G : Gc} {P : Pg} {cf : Nat → List U → Store → R U} {j : Nat} {C : Cfg} {W : WX} {X : Cx}
theorem ia_nil : PA X [] (tIs D P cf W .nil) := PA.imp pa_nil fun σ H Q ⟨φ, env, S, g, e, q⟩ => by
  unfold evs at q
  exact SatR.here (rel := RelUs D) (v := []) q g .nil
theorem ia_cons {a : E} {r : Es} {x : Expr} {es : List Expr} (ha : PE X x (tI D P cf W a)) (hr : PA X es (tIs D P cf W r)) (hs : starB x = false) : PA X (x :: es) (tIs D P cf W (.cons a r)) := by
  refine PA.imp (pa_cons ha hr (star_cons hs)) fun σ H Q ⟨φ, env, S, g, e, q⟩ => ?_
  unfold evs at q
  refine ⟨φ, env, S, g, e, q.bind fun u S1 φ1 H1 v _ p1 t1 g1 r1 q1 => ?_⟩
  refine ⟨φ1, env, S1, g1, e.mono p1 t1, q1.bind fun us S2 φ2 H2 vs _ p2 t2 g2 r2 q2 => ?_⟩
  exact SatR.here (rel := RelUs D) (v := v :: vs) q2 g2 (.cons (r1.mono p2 t2) r2)
theorem ie_tup {r : Es} {es : List Expr} {k : Nat} {pos : Pos} (hr : PA X es (tIs D P cf W r)) : PE X (.Tuple es k pos) (tI D P cf W (.tup r)) := by
  refine PE.imp (pe_tup hr) fun σ H Q ⟨φ, env, S, g, e, q⟩ => ?_
  unfold ev at q
  refine ⟨φ, env, S, g, e, q.bind fun us S1 φ1 H1 vs _ p1 t1 g1 r1 q1 => ?_⟩
  by_cases h : us.length ≤ LINE
  · rw [if_pos h] at q1
    exact ⟨by rw [sizeLine_eq, ← r1.len]; exact h, q1.newT g1 r1⟩
  · rw [if_neg h] at q1
    exact q1.elim
theorem ie_lst {r : Es} {es : List Expr} {pos : Pos} (hr : PA X es (tIs D P cf W r)) : PE X (.List es pos) (tI D P cf W (.lst r)) := by
  refine PE.imp (pe_lst hr) fun σ H Q ⟨φ, env, S, g, e, q⟩ => ?_
  unfold ev at q
  refine ⟨φ, env, S, g, e, q.bind fun us S1 φ1 H1 vs _ p1 t1 g1 r1 q1 => ?_⟩
  exact q1.newL g1 r1
def sliceB : Expr → Bool
  | .Slice _ _ _ _ => true
  | _ => false
theorem plain_ix {b : Expr} (h : sliceB b = false) : PlainIx b := by
  intro o i
  cases b <;> first | rfl | cases h
theorem ie_ix {a b : E} {x y : Expr} {pos : Pos} (hK : X.K = D.K) (ha : PE X x (tI D P cf W a)) (hb : PE X y (tI D P cf W b)) (hs : sliceB y = false) : PE X (.Subscript x y pos) (tI D P cf W (.ix a b)) := by
  refine PE.imp (pe_ix ix_seq ha hb (plain_ix hs)) fun σ H Q ⟨φ, env, S, g, e, q⟩ => ?_
  unfold ev at q
  refine ⟨φ, env, S, g, e, q.bind fun u S1 φ1 H1 v _ p1 t1 g1 r1 q1 => ?_⟩
  refine ⟨φ1, env, S1, g1, e.mono p1 t1, q1.bind fun w S2 φ2 H2 z _ p2 t2 g2 r2 q2 => ?_⟩
  rw [hK]
  exact ix_ok g2 (r1.mono p2 t2) r2 q2
theorem io_none : PO X none (tIo D P cf W .none) := PO.imp po_none fun σ H Q ⟨φ, env, S, g, e, q⟩ => by
  unfold evo at q
  exact SatR.here (rel := fun _ _ (a b : Option Int) => a = b) q g rfl
theorem io_some {a : E} {x : Expr} (ha : PE X x (tI D P cf W a)) : PO X (some x) (tIo D P cf W (.some a)) := PO.imp (po_some ha) fun σ H Q ⟨φ, env, S, g, e, q⟩ => by
  unfold evo at q
  refine ⟨φ, env, S, g, e, q.bind fun u S1 φ1 H1 v _ p1 t1 g1 r1 q1 => ?_⟩
  cases r1 with
  | int i => exact ⟨i, rfl, SatR.here (rel := fun _ _ (a b : Option Int) => a = b) q1 g1 rfl⟩
  | _ => exact q1.elim
theorem ie_cut {a : E} {lo hi : Eo} {x : Expr} {l h : Option Expr} {pos p2 : Pos} (hK : X.K = D.K) (ha : PE X x (tI D P cf W a)) (hl : PO X l (tIo D P cf W lo)) (hh : PO X h (tIo D P cf W hi)) : PE X (.Subscript x (.Slice l h none p2) pos) (tI D P cf W (.cut a lo hi)) := by
  refine PE.imp (pe_slice (sl_list.or (sl_tupA.or sl_str)) ha hl hh) fun σ H Q ⟨φ, env, S, g, e, q⟩ => ?_
  unfold ev at q
  refine ⟨φ, env, S, g, e, q.bind fun u S1 φ1 H1 v _ p1 t1 g1 r1 q1 => ?_⟩
  refine ⟨φ1, env, S1, g1, e.mono p1 t1, q1.bind fun o1 S2 φ2 H2 o1' _ p2 t2 g2 r2 q2 => ?_⟩
  subst r2
  refine ⟨φ2, env, S2, g2, e.mono (p1.trans p2) (t1.trans t2), q2.bind fun o2 S3 φ3 H3 o2' _ p3 t3 g3 r3 q3 => ?_⟩
  subst r3
  rw [hK]
  exact cut_ok g3 (r1.mono (p2.trans p3) (t2.trans t3)) q3

/-! ### calls -/
theorem ie_call (ok : CxOk D G P cf j C W X) (hc : C.calm = true) {f : Nat} {x : PySem.Str} {r : Es} {e0 : Expr} {es : List Expr} {p pos : Pos} (hx : G.fnm[f]? = some (some x)) (h2 : gloB C x = true) (hs : (e0 :: es).all (fun e => !starB e) = true) (hr : PA X (e0 :: es) (tIs D P cf W r)) :
    PE X (.Call (.Name x p) (e0 :: es) [] pos) (tI D P cf W (.call f r)) := by
  obtain ⟨hg, hd⟩ := glo_of ok h2
  obtain ⟨fd, ps, F, h3, h4, h5⟩ := ok.fns f x hx
  rw [List.all_cons, Bool.and_eq_true] at hs
  refine PE.imp (pe_callS F ((ok.room hc).mono (Nat.le_succ _)) hg h3 h4 h5 (fun σ => passAt ok.tk σ) hr hd (star_cons (by simpa using hs.1)) (star_any hs.2)) fun σ H Q ⟨φ, env, S, g, e, q⟩ => ?_
  unfold ev at q
  refine ⟨φ, env, S, g, e, q.bind fun us S1 φ1 H1 vs _ p1 t1 g1 r1 q1 => ?_⟩
  exact ⟨φ1, S1, us, g1, r1, q1⟩
theorem bi_call {b : Bi} {us : List U} {vs : List V} {φ : List Addr} {H : Hp} {S : Store} {Q : VK} {Ex : XK} {n : PySem.Str} {v : Value} (hn : biV b = some (n, v)) (g : Sim D φ S H) (r : RelUs D φ H us vs) (h : SatR D (biU b us S) (RelU D) φ H Q Ex) : rBi D.K b vs H Q :=
  bi_ok g r h fun t e => by subst e; cases hn
theorem ie_bi (ok : CxOk D G P cf j C W X) (hc : C.calm = true) {b : Bi} {x : PySem.Str} {v : Value} {r : Es} {e0 : Expr} {es : List Expr} {p pos : Pos} (hb : biV b = some (x, v)) (h2 : gloB C x = true) (hf : x ∈ G.free) (hs : (e0 :: es).all (fun e => !starB e) = true) (hr : PA X (e0 :: es) (tIs D P cf W r)) :
    PE X (.Call (.Name x p) (e0 :: es) [] pos) (tI D P cf W (.bi b r)) := by
  obtain ⟨hg, hd⟩ := glo_of ok h2
  obtain ⟨b1, b2, b3⟩ := biV_boot hb
  rw [List.all_cons, Bool.and_eq_true] at hs
  have go : ∀ (σ : L2.St) (H : Hp) (Q : VK), tI D P cf W (.bi b r) σ H Q → tCB (rBi X.K b) (tIs D P cf W r) σ H Q := fun σ H Q ⟨φ, env, S, g, e, q⟩ => by
    unfold ev at q
    refine ⟨φ, env, S, g, e, q.bind fun us S1 φ1 H1 vs _ p1 t1 g1 r1 q1 => ?_⟩
    rw [ok.K]
    exact bi_call hb g1 r1 q1
  have rule := bi_rule (ok.calm hc) hb
  cases v with
  | builtin id => exact PE.imp (pe_callB rule hg (ok.fr x hf) b1 hr b2 b3 (star_cons (by simpa using hs.1)) (star_any hs.2)) go
  | type id => exact PE.imp (pe_callTy rule hg (ok.fr x hf) b1 hr b2 b3 (star_cons (by simpa using hs.1)) (star_any hs.2)) go
  | _ => cases b <;> cases hb

/-! ### what is walked -/
theorem okW_at {w : List (Nat × List U)} {S : Store} (h : okW w S = true) {l : Nat} {us : List U} (hm : (l, us) ∈ w) : itemsU S (.ref l) = some us := by
  unfold okW at h
  simpa using List.all_eq_true.mp h (l, us) hm
theorem relq_list {φ : List Addr} {H : Hp} {l : Nat} {a : Addr} {us : List U} (f : φ[l]? = some a) : RelQ D φ H ⟨us, [(l, us)]⟩ (Itl D.K a) := fun φ1 S1 H1 p t g ow => by
  obtain ⟨a', vs, e, s, r⟩ := g.itemsL (.ref (pre_at p f)) (okW_at ow (List.mem_singleton.mpr rfl))
  cases e
  refine ⟨fun i hi => ⟨vs, s, by rw [← r.len]; exact hi⟩, fun i u hu => ?_⟩
  obtain ⟨v, hv, rv⟩ := r.at hu
  refine ⟨⟨vs, v, s, hv⟩, fun x H2 hy => ?_⟩
  obtain ⟨rfl, hy⟩ := hy
  have e : v = x := Option.some.inj (hv.symm.trans (hy vs s))
  subst e
  exact ⟨Tm.refl _ _, g, rv⟩
theorem relq_tup {φ : List Addr} {H : Hp} {a : Addr} {us : List U} {vs : List V} (s : SqT D.K H a vs) (r : RelUs D φ H us vs) : RelQ D φ H ⟨us, []⟩ (Itt D.K a) := fun φ1 S1 H1 p t g ow => by
  have s1 := t _ _ s
  refine ⟨fun i hi => ⟨vs, s1, by rw [← r.len]; exact hi⟩, fun i u hu => ?_⟩
  obtain ⟨v, hv, rv⟩ := r.at hu
  refine ⟨⟨vs, v, s1, hv⟩, fun x H2 hy => ?_⟩
  obtain ⟨rfl, hy⟩ := hy
  have e : v = x := Option.some.inj (hv.symm.trans (hy vs s1))
  subst e
  exact ⟨Tm.refl _ _, g, rv.mono p t⟩
theorem relq_rng {φ : List Addr} {H : Hp} {lo : Int} {n : Nat} : RelQ D φ H ⟨(List.range n).map fun (k : Nat) => U.int (lo + k), []⟩ (Itr lo n) := fun φ1 S1 H1 p t g ow => by
  refine ⟨fun i hi => ?_, fun i u hu => ?_⟩
  · simp at hi; exact hi
  · rw [List.getElem?_map] at hu
    obtain ⟨k, hk, rfl⟩ := Option.map_eq_some_iff.mp hu
    have h1 : i < n := by
      have := (List.getElem?_eq_some_iff.mp hk).1
      simpa using this
    rw [List.getElem?_range h1] at hk
    cases hk
    refine ⟨h1, fun x H2 hy => ?_⟩
    obtain ⟨rfl, rfl⟩ := hy
    exact ⟨Tm.refl _ _, g, .int _⟩
theorem sq_cases {S : Store} {u : U} {q : Sq} (h : sqU S u = some q) : (∃ us, u = .tup us ∧ q = ⟨us, []⟩) ∨ ∃ l us, u = .ref l ∧ q = ⟨us, [(l, us)]⟩ ∧ itemsU S u = some us := by
  unfold sqU at h
  cases u with
  | tup us => cases h; exact .inl ⟨us, rfl, rfl⟩
  | ref l =>
    dsimp only at h
    split at h
    · cases h
      rename_i us e
      exact .inr ⟨l, us, rfl, rfl, by unfold itemsU; simp only [e]⟩
    · cases h
      rename_i us e
      exact .inr ⟨l, us, rfl, rfl, by unfold itemsU; simp only [e]⟩
    · cases h
  | _ => cases h
theorem relq_chars {φ : List Addr} {H : Hp} (y : PySem.Str) : RelQ D φ H ⟨y.cps.toList.map fun c => .str ⟨#[c]⟩, []⟩ (Its y) := fun φ2 S2 H2 p2 t2 g2 ow => ⟨fun i hi => by
    rw [List.length_map] at hi
    show y.cps.size ≤ i
    simpa using hi, fun i u hu => by
    rw [List.getElem?_map] at hu
    obtain ⟨c, hc, rfl⟩ := Option.map_eq_some_iff.mp hu
    have h1 : y.cps[i]? = some c := by simpa using hc
    refine ⟨(by
      have := (Array.getElem?_eq_some_iff.mp h1).1
      exact this), fun x H3 hy => ?_⟩
    obtain ⟨rfl, c', h2, rfl⟩ := hy
    have e : c = c' := Option.some.inj (h1.symm.trans h2)
    subst e
    exact ⟨Tm.refl _ _, g2, .str _⟩⟩
theorem ii_seq {a : E} {x tg : Expr} (hK : X.K = D.K) (ha : PE X x (tI D P cf W a)) : PI X tg x (tIq D P cf W (.seq a)) := by
  refine PI.imp (PI.or (PI.or (pi_list ha) (pi_tup ha)) (pi_str ha)) fun σ H R ⟨φ, env, S, g, e, q⟩ => ?_
  unfold evi at q
  cases h1 : ev P cf a env S with
  | stuck => rw [h1] at q; exact q.elim
  | exc c d S1 =>
    refine .inl (.inl ⟨φ, env, S, g, e, ?_⟩)
    rw [h1] at q ⊢
    exact q
  | val u S1 =>
    rw [h1] at q
    obtain ⟨sq, hq, q⟩ := SatR.ofO (S := S1) (o := sqS S1 u) q
    by_cases hz : ∃ z, u = .str z
    · obtain ⟨z, rfl⟩ := hz
      cases hq
      refine .inr ⟨φ, env, S, g, e, ?_⟩
      rw [h1]
      intro φ1 H1 v p1 t1 g1 r1
      cases r1 with
      | str y => exact ⟨_, rfl, q φ1 H1 _ p1 t1 g1 (relq_chars z)⟩
    have hq : sqU S1 u = some sq := by
      cases u with
      | str z => exact absurd ⟨z, rfl⟩ hz
      | _ => exact hq
    rcases sq_cases hq with ⟨us, rfl, rfl⟩ | ⟨l, us, rfl, rfl, hi⟩
    · refine .inl (.inr ⟨φ, env, S, g, e, ?_⟩)
      rw [h1]
      intro φ1 H1 v p1 t1 g1 r1
      cases r1 with
      | tup s r =>
        rw [hK]
        exact ⟨_, rfl, ⟨_, s⟩, q φ1 H1 _ p1 t1 g1 (relq_tup s r)⟩
    · refine .inl (.inl ⟨φ, env, S, g, e, ?_⟩)
      rw [h1]
      intro φ1 H1 v p1 t1 g1 r1
      obtain ⟨p, vs, rfl, s, r⟩ := g1.itemsL r1 hi
      cases r1 with
      | ref f =>
        rw [hK]
        exact ⟨_, rfl, ⟨vs, s⟩, q φ1 H1 _ p1 t1 g1 (relq_list f)⟩
theorem ii_rng1 (ok : CxOk D G P cf j C W X) {a : E} {x tg : Expr} {p pos : Pos} (ha : PE X x (tI D P cf W a)) (h2 : gloB C "range" = true) (hf : ("range" : PySem.Str) ∈ G.free) (hs : starB x = false) : PI X tg (.Call (.Name "range" p) [x] [] pos) (tIq D P cf W (.rng1 a)) := by
  obtain ⟨hg, hd⟩ := glo_of ok h2
  refine PI.imp (pi_range1 hg (ok.fr _ hf) (pa_cons ha pa_nil (star_cons hs)) (star_cons hs)) fun σ H R ⟨φ, env, S, g, e, q⟩ => ?_
  unfold evi at q
  refine ⟨φ, env, S, g, e, q.bind fun u S1 φ1 H1 v _ p1 t1 g1 r1 q1 => ?_⟩
  cases r1 with
  | int n =>
    dsimp only at q1
    split at q1
    · refine ⟨n, rfl, by omega, by omega, ?_⟩
      refine q1.here g1 ?_
      have h := relq_rng (D := D) (φ := φ1) (H := H1) (lo := 0) (n := n.toNat)
      simp only [Int.zero_add] at h
      exact h
    · exact q1.elim
  | _ => exact q1.elim
theorem ii_rng2 (ok : CxOk D G P cf j C W X) {a b : E} {x y tg : Expr} {p pos : Pos} (ha : PE X x (tI D P cf W a)) (hb : PE X y (tI D P cf W b)) (h2 : gloB C "range" = true) (hf : ("range" : PySem.Str) ∈ G.free) (hs : starB x = false) (hs2 : starB y = false) : PI X tg (.Call (.Name "range" p) [x, y] [] pos) (tIq D P cf W (.rng2 a b)) := by
  obtain ⟨hg, hd⟩ := glo_of ok h2
  refine PI.imp (pi_range2 hg (ok.fr _ hf) (pa_cons ha (pa_cons hb pa_nil (star_cons hs2)) (star_cons hs)) (by rw [star_cons hs, star_cons hs2]; rfl) (star_cons hs2)) fun σ H R ⟨φ, env, S, g, e, q⟩ => ?_
  unfold evi at q
  refine ⟨φ, env, S, g, e, q.bind fun u S1 φ1 H1 v _ p1 t1 g1 r1 q1 => ?_⟩
  refine ⟨φ1, env, S1, g1, e.mono p1 t1, q1.bind fun w S2 φ2 H2 v2 _ p2 t2 g2 r2 q2 => ?_⟩
  cases r1 with
  | int n => cases r2 with
    | int m =>
      dsimp only at q2
      split at q2
      · rename_i c
        exact ⟨n, m, rfl, ⟨by omega, by omega, by omega, by omega⟩, q2.here g2 relq_rng⟩
      · exact q2.elim
    | _ => exact q2.elim
  | _ => cases r2 <;> exact q2.elim
theorem relq_rev {φ : List Addr} {H : Hp} {l : Nat} {a : Addr} {us : List U} {n : Nat} (hn : us.length = n) (f : φ[l]? = some a) : RelQ D φ H ⟨us.reverse, [(l, us)]⟩ (Itv D.K a n) := fun φ1 S1 H1 p t g ow => by
  obtain ⟨a', vs, e, s, r⟩ := g.itemsL (.ref (pre_at p f)) (okW_at ow (List.mem_singleton.mpr rfl))
  cases e
  refine ⟨fun i hi => by rw [List.length_reverse] at hi; show n ≤ i; omega, fun i u hu => ?_⟩
  have hi : i < us.length := by
    have := (List.getElem?_eq_some_iff.mp hu).1
    simpa using this
  rw [List.getElem?_reverse hi] at hu
  obtain ⟨v, hv, rv⟩ := r.at hu
  rw [hn] at hv
  refine ⟨⟨by omega, vs, v, s, hv⟩, fun x H2 hy => ?_⟩
  obtain ⟨rfl, hy⟩ := hy
  have e : v = x := Option.some.inj (hv.symm.trans (hy vs s))
  subst e
  exact ⟨Tm.refl _ _, g, rv⟩
theorem relq_revT {φ : List Addr} {H : Hp} {a : Addr} {us : List U} {vs : List V} (s : SqT D.K H a vs) (r : RelUs D φ H us vs) : RelQ D φ H ⟨us.reverse, []⟩ (RT.ItvT D.K a vs.length) := fun φ1 S1 H1 p t g ow => by
  have s1 := t _ _ s
  refine ⟨fun i hi => by rw [List.length_reverse, r.len] at hi; exact hi, fun i u hu => ?_⟩
  have hi : i < us.length := by
    have := (List.getElem?_eq_some_iff.mp hu).1
    simpa using this
  rw [List.getElem?_reverse hi] at hu
  obtain ⟨v, hv, rv⟩ := r.at hu
  rw [r.len] at hv hi
  refine ⟨⟨hi, vs, v, s1, hv⟩, fun x H2 hy => ?_⟩
  obtain ⟨rfl, hy⟩ := hy
  have e : v = x := Option.some.inj (hv.symm.trans (hy vs s1))
  subst e
  exact ⟨Tm.refl _ _, g, rv.mono p t⟩
theorem ii_rev (ok : CxOk D G P cf j C W X) {a : E} {x tg : Expr} {p pos : Pos} (ha : PE X x (tI D P cf W a)) (h2 : gloB C "reversed" = true) (hf : ("reversed" : PySem.Str) ∈ G.free) (hs : starB x = false) : PI X tg (.Call (.Name "reversed" p) [x] [] pos) (tIq D P cf W (.rev a)) := by
  obtain ⟨hg, hd⟩ := glo_of ok h2
  refine PI.imp (RT.pi_revA hg (ok.fr _ hf) ha (star_cons hs)) fun σ H R ⟨φ, env, S, g, e, q⟩ => ?_
  unfold evi at q
  refine ⟨φ, env, S, g, e, q.bind fun u S1 φ1 H1 v _ p1 t1 g1 r1 q1 => ?_⟩
  cases hq : sqU S1 u with
  | none => rw [hq] at q1; exact q1.elim
  | some sq =>
    rw [hq] at q1
    rw [ok.K]
    rcases sq_cases hq with ⟨us, rfl, rfl⟩ | ⟨l, us, rfl, rfl, hi⟩
    · cases r1 with
      | tup s r => exact ⟨_, _, rfl, .inr ⟨s, q1.here g1 (relq_revT s r)⟩⟩
    · obtain ⟨p, vs, rfl, s, r⟩ := g1.itemsL r1 hi
      cases r1 with
      | ref f => exact ⟨_, _, rfl, .inl ⟨s, q1.here g1 (relq_rev r.len f)⟩⟩
theorem ii_chars {a : E} {x tg : Expr} (ha : PE X x (tI D P cf W a)) : PI X tg x (tIq D P cf W (.chars a)) := by
  refine PI.imp (pi_str ha) fun σ H R ⟨φ, env, S, g, e, q⟩ => ?_
  unfold evi at q
  refine ⟨φ, env, S, g, e, q.bind fun u S1 φ1 H1 v _ p1 t1 g1 r1 q1 => ?_⟩
  cases r1 with
  | str y =>
    refine ⟨y, rfl, q1.here g1 fun φ2 S2 H2 p2 t2 g2 ow => ⟨fun i hi => ?_, fun i u hu => ?_⟩⟩
    · rw [List.length_map] at hi
      show y.cps.size ≤ i
      simpa using hi
    · rw [List.getElem?_map] at hu
      obtain ⟨c, hc, rfl⟩ := Option.map_eq_some_iff.mp hu
      have h1 : y.cps[i]? = some c := by simpa using hc
      refine ⟨(by
        have := (Array.getElem?_eq_some_iff.mp h1).1
        exact this), fun x H3 hy => ?_⟩
      obtain ⟨rfl, c', h2, rfl⟩ := hy
      have e : c = c' := Option.some.inj (h1.symm.trans h2)
      subst e
      exact ⟨Tm.refl _ _, g2, .str _⟩
  | _ => exact q1.elim
theorem Tm.tupN {H : Hp} {T : Addr} {vs : List V} (h : H T = none) : Tm D H (upd H T (.tup vs)) := Tm.new h
theorem relq_enum {φ : List Addr} {H : Hp} {l : Nat} {a : Addr} {us : List U} (f : φ[l]? = some a) : RelQ D φ H ⟨us.zipIdx.map fun p => .tup [.int p.2, p.1], [(l, us)]⟩ (Ite D.K a) := fun φ1 S1 H1 p t g ow => by
  obtain ⟨a', vs, e, s, r⟩ := g.itemsL (.ref (pre_at p f)) (okW_at ow (List.mem_singleton.mpr rfl))
  cases e
  refine ⟨fun i hi => ⟨vs, s, by rw [← r.len]; simpa using hi⟩, fun i u hu => ?_⟩
  rw [List.getElem?_map, List.getElem?_zipIdx] at hu
  obtain ⟨z, hz, rfl⟩ := Option.map_eq_some_iff.mp hu
  obtain ⟨w, hw, rfl⟩ := Option.map_eq_some_iff.mp hz
  obtain ⟨v, hv, rv⟩ := r.at hw
  refine ⟨⟨vs, v, s, hv⟩, fun x H2 hy => ?_⟩
  obtain ⟨T, x', rfl, hT, rfl, hy⟩ := hy
  have e : v = x' := Option.some.inj (hv.symm.trans (hy vs s))
  subst e
  refine ⟨Tm.tupN hT, g.tupNew hT, .tup (.of upd_same) (.cons ?_ (.cons (rv.mono (List.prefix_refl _) (Tm.tupN hT)) .nil))⟩
  simp only [Nat.zero_add]
  exact .int _
theorem ii_enum (ok : CxOk D G P cf j C W X) {a : E} {x : Expr} {elts : List Expr} {kk : Nat} {tpos p pos : Pos} (ha : PE X x (tI D P cf W a)) (h2 : gloB C "enumerate" = true) (hf : ("enumerate" : PySem.Str) ∈ G.free) (hs : starB x = false) : PI X (.Tuple elts kk tpos) (.Call (.Name "enumerate" p) [x] [] pos) (tIq D P cf W (.enum a)) := by
  obtain ⟨hg, hd⟩ := glo_of ok h2
  refine PI.imp (pi_enum hg (ok.fr _ hf) (pa_cons ha pa_nil (star_cons hs)) (star_cons hs)) fun σ H R ⟨φ, env, S, g, e, q⟩ => ?_
  unfold evi at q
  refine ⟨φ, env, S, g, e, q.bind fun u S1 φ1 H1 v _ p1 t1 g1 r1 q1 => ?_⟩
  cases hq : sqU S1 u with
  | none => rw [hq] at q1; exact q1.elim
  | some sq =>
    rw [hq] at q1
    rw [ok.K]
    rcases sq_cases hq with ⟨us, rfl, rfl⟩ | ⟨l, us, rfl, rfl, hi⟩
    · exact q1.elim
    · obtain ⟨p, vs, rfl, s, r⟩ := g1.itemsL r1 hi
      cases r1 with
      | ref f => exact ⟨_, vs, rfl, s, SatR.here (rel := RelQ D) q1 g1 (relq_enum f)⟩
theorem relq_zip {φ : List Addr} {H : Hp} {l k : Nat} {a b : Addr} {us ws : List U} (hl : us.length = ws.length) (f : φ[l]? = some a) (f2 : φ[k]? = some b) : RelQ D φ H ⟨(us.zip ws).map fun z => .tup [z.1, z.2], [(l, us), (k, ws)]⟩ (Itz D.K a b) := fun φ1 S1 H1 p t g ow => by
  obtain ⟨a', vs, e, s, r⟩ := g.itemsL (.ref (pre_at p f)) (okW_at ow List.mem_cons_self)
  obtain ⟨b', zs, e2, s2, r2⟩ := g.itemsL (.ref (pre_at p f2)) (okW_at ow (List.mem_cons_of_mem _ List.mem_cons_self))
  cases e; cases e2
  refine ⟨fun i hi => ⟨vs, zs, s, s2, .inl ?_⟩, fun i u hu => ?_⟩
  · rw [List.length_map, List.length_zip] at hi
    rw [← r.len]; omega
  · rw [List.getElem?_map] at hu
    obtain ⟨z, hz, rfl⟩ := Option.map_eq_some_iff.mp hu
    obtain ⟨h1, h2⟩ := List.getElem?_zip_eq_some.mp hz
    obtain ⟨v, hv, rv⟩ := r.at h1
    obtain ⟨v2, hv2, rv2⟩ := r2.at h2
    refine ⟨⟨vs, zs, v, v2, s, s2, hv, hv2⟩, fun x H2 hy => ?_⟩
    obtain ⟨T, x1, x2, rfl, hT, rfl, hy1, hy2⟩ := hy
    have e1 : v = x1 := Option.some.inj (hv.symm.trans (hy1 vs s))
    have e2 : v2 = x2 := Option.some.inj (hv2.symm.trans (hy2 zs s2))
    subst e1 e2
    exact ⟨Tm.tupN hT, g.tupNew hT, .tup (.of upd_same) (.cons (rv.mono (List.prefix_refl _) (Tm.tupN hT)) (.cons (rv2.mono (List.prefix_refl _) (Tm.tupN hT)) .nil))⟩
theorem ii_zip (ok : CxOk D G P cf j C W X) {a b : E} {x y : Expr} {elts : List Expr} {kk : Nat} {tpos p pos : Pos} (ha : PE X x (tI D P cf W a)) (hb : PE X y (tI D P cf W b)) (h2 : gloB C "zip" = true) (hf : ("zip" : PySem.Str) ∈ G.free) (hs : starB x = false) (hs2 : starB y = false) : PI X (.Tuple elts kk tpos) (.Call (.Name "zip" p) [x, y] [] pos) (tIq D P cf W (.zip a b)) := by
  obtain ⟨hg, hd⟩ := glo_of ok h2
  refine PI.imp (pi_zip hg (ok.fr _ hf) (pa_cons ha (pa_cons hb pa_nil (star_cons hs2)) (star_cons hs)) (star_cons hs) (star_any (by simp [hs2]))) fun σ H R ⟨φ, env, S, g, e, q⟩ => ?_
  unfold evi at q
  refine ⟨φ, env, S, g, e, q.bind fun u S1 φ1 H1 v _ p1 t1 g1 r1 q1 => ?_⟩
  refine ⟨φ1, env, S1, g1, e.mono p1 t1, q1.bind fun w S2 φ2 H2 v2 _ p2 t2 g2 r2 q2 => ?_⟩
  cases hq : sqU S2 u with
  | none => rw [hq] at q2; exact q2.elim
  | some sq =>
    cases hp : sqU S2 w with
    | none => rw [hq, hp] at q2; exact q2.elim
    | some sp =>
      rw [hq, hp] at q2
      rcases sq_cases hq with ⟨us, rfl, rfl⟩ | ⟨l, us, rfl, rfl, hi⟩
      · exact q2.elim
      · rcases sq_cases hp with ⟨ws, rfl, rfl⟩ | ⟨k, ws, rfl, rfl, hi2⟩
        · exact q2.elim
        · dsimp only at q2
          split at q2
          · rename_i hl
            rw [ok.K]
            have r1' := r1.mono p2 t2
            obtain ⟨p, vs, rfl, s, r⟩ := g2.itemsL r1' hi
            obtain ⟨p', zs, rfl, s2, rr⟩ := g2.itemsL r2 hi2
            cases r1' with
            | ref f => cases r2 with
              | ref f2 => exact ⟨_, _, vs, zs, rfl, s, s2, SatR.here (rel := RelQ D) q2 g2 (relq_zip hl f f2)⟩
          · exact q2.elim
end
end PyI
set_option Elab.async false
set_option linter.all false
set_option autoImplicit false
set_option maxRecDepth 100000
set_option maxHeartbeats 2000000
/-! Targets, comprehensions, methods of lists, isinstance. -/
namespace PyI
open PySem L2
def gsOf (ts : List Nat) : TGs := ts.foldr (fun i r => gCons (gName i) r) gNil
def gOf (K : PySem.W.Frag) : Tg → TG
  | .nm i => gName i
  | .tp ts => gTup K ts.length (gsOf ts)
def tgs : Tg → List Nat
  | .nm i => [i]
  | .tp ts => ts
theorem wipe_set {σ : L2.St} {i : Nat} {x : Option V} : ∀ {vs : List Nat}, i ∈ vs → wipe (σ.set i x) vs = wipe σ vs
  | [], h => by simp at h
  | v :: vs, h => by
    unfold wipe
    by_cases q : i ∈ vs
    · rw [wipe_set q]
    · have e : i = v := by simpa [q] using h
      subst e
      have h2 : ∀ (ws : List Nat) (σ : L2.St), i ∉ ws → wipe (σ.set i x) ws = (wipe σ ws).set i x := by
        intro ws
        induction ws with
        | nil => intro σ _; rfl
        | cons w ws ih =>
          intro σ hw
          unfold wipe
          rw [ih σ (fun z => hw (List.mem_cons_of_mem _ z)), List.set_comm]
          exact fun z => hw (z ▸ List.mem_cons_self)
      rw [h2 vs σ q, List.set_set]
theorem wipe_wipe (σ : L2.St) : ∀ (vs ws : List Nat), (∀ v ∈ ws, v ∈ vs) → wipe (wipe σ ws) vs = wipe σ vs := by
  intro vs ws
  induction ws with
  | nil => intro _; rfl
  | cons w ws ih =>
    intro h
    show wipe ((wipe σ ws).set w none) vs = wipe σ vs
    rw [wipe_set (h w List.mem_cons_self)]
    exact ih fun v hv => h v (List.mem_cons_of_mem _ hv)
theorem wipeU_len (env : Env) : ∀ vs : List Nat, (wipeU env vs).length = env.length
  | [] => rfl
  | v :: vs => by unfold wipeU; rw [List.length_set, wipeU_len env vs]
section
variable {D : Wd} {φ : List Addr} {H : Hp}
theorem RelE.wipe {env : Env} {σ : L2.St} (e : RelE D φ H env σ) : ∀ vs : List Nat, RelE D φ H (wipeU env vs) (wipe σ vs)
  | [] => e
  | v :: vs => by
    have ih := e.wipe vs
    refine ⟨by rw [wipeU_len, wipe_length, e.len], fun i u h => ?_⟩
    unfold wipeU at h
    by_cases q : v = i
    · subst q
      have hl := (List.getElem?_eq_some_iff.mp h).1
      rw [List.length_set] at hl
      rw [List.getElem?_set_self hl] at h
      cases h
    · rw [List.getElem?_set_ne q] at h
      obtain ⟨x, h1, h2⟩ := ih.at_ i u h
      exact ⟨x, by unfold L2.wipe; rw [List.getElem?_set_ne q]; exact h1, h2⟩
theorem gs_run {Q : L2.St → Hp → Prop} : ∀ {ts : List Nat} {us : List U} {vs : List V} {env : Env} {σ : L2.St}, ts.length = us.length → RelUs D φ H us vs → RelE D φ H env σ →
    (∀ σ1, RelE D φ H ((ts.zip us).foldl (fun e p => e.set p.1 (some p.2)) env) σ1 → (∀ ws : List Nat, (∀ i ∈ ts, i ∈ ws) → wipe σ1 ws = wipe σ ws) → Q σ1 H) → gsOf ts vs σ H Q
  | [], us, vs, env, σ, hl, r, e, k => by
    cases us with
    | cons u us => cases hl
    | nil => cases r; exact ⟨rfl, k σ e fun _ _ => rfl⟩
  | t :: ts, us, vs, env, σ, hl, r, e, k => by
    cases us with
    | nil => cases hl
    | cons u us =>
      cases r with
      | cons a r =>
        rename_i v vs
        refine ⟨v, vs, rfl, ?_⟩
        show gsOf ts vs (σ.set t (some v)) H Q
        refine gs_run (Nat.succ.inj hl) r (e.set a t) fun σ1 e1 hw => k σ1 e1 fun ws h => ?_
        rw [hw ws fun i hi => h i (List.mem_cons_of_mem _ hi), wipe_set (h t List.mem_cons_self)]
theorem g_run {K : PySem.W.Frag} (hK : K = D.K) {t : Tg} {u : U} {v : V} {env env1 : Env} {σ : L2.St} {Q : L2.St → Hp → Prop} (r : RelU D φ H u v) (e : RelE D φ H env σ) (hb : bindT t u env = some env1)
    (k : ∀ σ1, RelE D φ H env1 σ1 → (∀ ws : List Nat, (∀ i ∈ tgs t, i ∈ ws) → wipe σ1 ws = wipe σ ws) → Q σ1 H) : gOf K t v σ H Q := by
  cases t with
  | nm i =>
    cases hb
    exact k _ (e.set r i) fun ws h => wipe_set (h i List.mem_cons_self)
  | tp ts =>
    cases r with
    | tup s r =>
      rename_i us vs a
      have hb : (if ts.length = us.length then some ((ts.zip us).foldl (fun e p => e.set p.1 (some p.2)) env) else none) = some env1 := hb
      by_cases hl : ts.length = us.length
      · rw [if_pos hl] at hb
        cases hb
        rw [hK]
        exact ⟨a, vs, rfl, s, by rw [← r.len, hl], gs_run hl r e k⟩
      · rw [if_neg hl] at hb
        cases hb
    | _ => cases hb
end
section
variable {D : Wd} {G : Gc} {P : Pg} {cf : Nat → List U → Store → R U} {j : Nat} {C : Cfg} {W : WX} {X : Cx}
/-- a target's match -/
def locB (C : Cfg) (i : Nat) (x : PySem.Str) : Bool := decide (C.N[i]? = some x) && (match C.sc.names.lookup x with
  | some .local => true
  | some .cell => C.st x
  | _ => false)
theorem loc_of (ok : CxOk D G P cf j C W X) {i : Nat} {x : PySem.Str} (h : locB C i x = true) : X.N[i]? = some x ∧ Loc X.env.scope x ∧ (X.fn x = true ∨ X.env.scope.names.lookup x = some .local) := by
  unfold locB at h
  rw [Bool.and_eq_true, decide_eq_true_eq] at h
  rw [ok.N, ok.sc]
  refine ⟨h.1, ?_⟩
  have h2 := h.2
  split at h2
  · rename_i e; exact ⟨.inl e, .inr e⟩
  · rename_i e; exact ⟨.inr e, .inl (ok.fnS x h2)⟩
  · cases h2
def mTs (C : Cfg) : List Nat → List Expr → Bool
  | [], [] => true
  | i :: ts, .Name x _ :: es => locB C i x && mTs C ts es
  | _, _ => false
def mT (C : Cfg) : Tg → Expr → Bool
  | .nm i, .Name x _ => locB C i x
  | .tp ts, .Tuple es _ _ => C.calm && mTs C ts es
  | _, _ => false
theorem mTs_ok (ok : CxOk D G P cf j C W X) : ∀ {ts : List Nat} {es : List Expr}, mTs C ts es = true → PGs X es (gsOf ts) ∧ (assignEach es X.env).length = ts.length ∧ (assignEach es X.env).findIdx? (·.1) = none
  | [], [], _ => ⟨pgs_nil, rfl, rfl⟩
  | [], e :: es, h => by cases h
  | i :: ts, [], h => by cases h
  | i :: ts, e :: es, h => by
    cases e with
    | Name x p =>
      unfold mTs at h
      rw [Bool.and_eq_true] at h
      obtain ⟨h1, h2, h3⟩ := loc_of ok h.1
      obtain ⟨a, b, c⟩ := mTs_ok ok h.2
      refine ⟨pgs_cons (pg_name (by rw [ok.N]; exact ok.nd) h1 h2 h3) a rfl, ?_, ?_⟩
      · show (assignEach es X.env).length + 1 = ts.length + 1
        rw [b]
      · show List.findIdx? (·.1) ((false, assign (.Name x p) X.env) :: assignEach es X.env) = none
        rw [List.findIdx?_cons, c]
        rfl
    | _ => cases h
theorem mT_ok (ok : CxOk D G P cf j C W X) {t : Tg} {e : Expr} (h : mT C t e = true) : PG X e (gOf X.K t) := by
  cases t with
  | nm i => cases e with
    | Name x p =>
      obtain ⟨h1, h2, h3⟩ := loc_of ok h
      exact pg_name (by rw [ok.N]; exact ok.nd) h1 h2 h3
    | _ => cases h
  | tp ts => cases e with
    | Tuple es k p =>
      unfold mT at h
      rw [Bool.and_eq_true] at h
      obtain ⟨a, b, c⟩ := mTs_ok ok h.2
      exact pg_tup (ok.calm h.1) a b c
    | _ => cases h

/-! ### comprehensions -/
abbrev WF : WX := fun _ _ _ _ => False
def Cfg.blkd (C : Cfg) (scope : Scope) : Cfg := { N := C.N, sc := relS scope C.sc, st := fun x => scope.names.lookup x == some .cell, calm := C.calm, top := false }
theorem CxOk.blkd (ok : CxOk D G P cf j C W X) (s : Shared) (H : Hp) (scope : Scope) (cl : List (PySem.Str × Addr)) (Cc : Addr) (fp : List Addr) : CxOk D G P cf j (C.blkd scope) WF (X.blk s H scope (compEnvC scope cl Cc X.env) fp) where
  K := ok.K
  N := ok.N
  nd := ok.nd
  sc := by
    show relabel scope X.env = relS scope C.sc
    rw [← ok.sc]
    rfl
  calm := ok.calm
  room := ok.room
  tk := takes0
  po := PassesOwn.never
  fnS := fun x h => h
  fr := ok.fr
  gl := ok.gl
  top := fun h => by cases h
  exs := ok.exs
  noi := ok.noi
  exc := ok.exc
  exm := ok.exm
  fns := ok.fns
theorem loopC_run {t : Tg} {own : List Nat} {c : Eo} {e : E} {l : Nat} {w : List (Nat × List U)} {env : Env} {σ : L2.St} {J : L2.It} {items : List U} {φ0 : List Addr} {H0 : Hp} {Dl : Addr} {Qd : Hp → Prop}
    (hq : RelQ D φ0 H0 ⟨items, w⟩ J) (he0 : RelE D φ0 H0 env σ) (ht : ∀ i ∈ tgs t, i ∈ own) (hK : X.K = D.K)
    {φ : List Addr} {S : Store} {H : Hp} (p : φ0 <+: φ) (tm : Tm D H0 H) (g : Sim D φ S H) (hl : φ[l]? = some Dl)
    (q : SatR D (noX (loopC t own (evc P cf c) (ev P cf e) l w env items S)) (fun _ _ (_ : Unit) (_ : Unit) => True) φ H (fun _ H' => Qd H') (fun _ _ _ => False)) :
    ∃ Wi : Nat → Nat → Hp → Prop, (∃ m, Wi 0 m H) ∧ ∀ i m H, Wi i m H → (J.stop i H ∧ Qd H) ∨ (J.go i H ∧ ∃ Nx : Hp → Prop, (∀ H', Nx H' → ∃ m', m' < m ∧ Wi (i + 1) m' H') ∧
      ∀ x H', J.yld i H x H' → gOf X.K t x (wipe σ own) H' fun σ2 H2 => wipe σ2 own = wipe σ own ∧ tIc D P cf WF c σ2 H2 fun b H3 => if b = true then tI D P cf WF e σ2 H3 fun y H4 => ∃ acc, H4 Dl = some (.lst acc) ∧ acc.length < sizeLine ∧ Nx (upd H4 Dl (.lst (acc ++ [y]))) else Nx H3) := by
  let Wi : Nat → Nat → Hp → Prop := fun i m H => ∃ φ S, φ0 <+: φ ∧ Tm D H0 H ∧ Sim D φ S H ∧ φ[l]? = some Dl ∧ i + m = items.length ∧ SatR D (noX (loopC t own (evc P cf c) (ev P cf e) l w env (items.drop i) S)) (fun _ _ (_ : Unit) (_ : Unit) => True) φ H (fun _ H' => Qd H') (fun _ _ _ => False)
  refine ⟨Wi, ⟨items.length, φ, S, p, tm, g, hl, by omega, q⟩, fun i m H hW => ?_⟩
  obtain ⟨φ, S, p, tm, g, hl, him, q⟩ := hW
  by_cases hi : i < items.length
  · have hd : items.drop i = items[i] :: items.drop (i + 1) := List.drop_eq_getElem_cons hi
    rw [hd] at q
    unfold loopC at q
    split at q
    · rename_i ow
      obtain ⟨_, hq2⟩ := hq φ S H p tm g ow
      obtain ⟨go, yl⟩ := hq2 i items[i] (List.getElem?_eq_getElem hi)
      refine .inr ⟨go, Wi (i + 1) (m - 1), fun H' hN => ⟨m - 1, by omega, hN⟩, fun x H' hy => ?_⟩
      obtain ⟨t1, g1, r1⟩ := yl x H' hy
      cases hb : bindT t items[i] (wipeU env own) with
      | none => rw [hb] at q; exact q.elim
      | some env1 =>
        rw [hb] at q
        refine g_run hK r1 (((he0.mono p (tm.trans t1))).wipe own) hb fun σ1 e1 hw => ⟨by rw [hw own ht, wipe_wipe σ own own fun _ h => h], ?_⟩
        -- the test
        dsimp only at q
        have q' : SatR D (noX ((evc P cf c env1 S).bind fun k S1 => if k then (ev P cf e env1 S1).bind fun y S2 => (match S2[l]? with
          | some (.lst acc) => if acc.length < LINE then loopC t own (evc P cf c) (ev P cf e) l w env (items.drop (i + 1)) (S2.set l (.lst (acc ++ [y]))) else .stuck
          | _ => .stuck) else loopC t own (evc P cf c) (ev P cf e) l w env (items.drop (i + 1)) S1)) (fun _ _ (_ : Unit) (_ : Unit) => True) φ H' (fun _ H' => Qd H') (fun _ _ _ => False) := q.mono (List.prefix_refl _) t1
        refine ⟨φ, env1, S, g1, e1, ?_⟩
        cases hc : evc P cf c env1 S with
        | stuck => rw [hc] at q'; exact q'.elim
        | exc c1 d1 S1 => rw [hc] at q'; exact q'.elim
        | val k S1 =>
          rw [hc] at q'
          intro φ2 H2 k' p2 t2 g2 rk
          subst rk
          have q2 := q'.mono p2 t2
          cases k with
          | false =>
            rw [if_neg Bool.false_ne_true]
            exact ⟨φ2, S1, p.trans p2, (tm.trans t1).trans t2, g2, pre_at p2 hl, by omega, q2⟩
          | true =>
            rw [if_pos rfl]
            refine ⟨φ2, env1, S1, g2, e1.mono p2 t2, ?_⟩
            have q2 : SatR D (noX ((ev P cf e env1 S1).bind fun y S2 => (match S2[l]? with
              | some (.lst acc) => if acc.length < LINE then loopC t own (evc P cf c) (ev P cf e) l w env (items.drop (i + 1)) (S2.set l (.lst (acc ++ [y]))) else .stuck
              | _ => .stuck))) (fun _ _ (_ : Unit) (_ : Unit) => True) φ2 H2 (fun _ H' => Qd H') (fun _ _ _ => False) := q2
            cases hv : ev P cf e env1 S1 with
            | stuck => rw [hv] at q2; exact q2.elim
            | exc c1 d1 S1 => rw [hv] at q2; exact q2.elim
            | val y S2 =>
              rw [hv] at q2
              intro φ3 H3 yv p3 t3 g3 ry
              have q3 : SatR D (noX (match S2[l]? with
                | some (.lst acc) => if acc.length < LINE then loopC t own (evc P cf c) (ev P cf e) l w env (items.drop (i + 1)) (S2.set l (.lst (acc ++ [y]))) else .stuck
                | _ => .stuck)) (fun _ _ (_ : Unit) (_ : Unit) => True) φ3 H3 (fun _ H' => Qd H') (fun _ _ _ => False) := q2.mono p3 t3
              split at q3
              · rename_i acc ha
                split at q3
                · rename_i hz
                  have fl := pre_at p3 (pre_at p2 hl)
                  obtain ⟨vs, h1, rs⟩ := g3.cell l _ Dl ha fl
                  refine ⟨vs, h1, by rw [sizeLine_eq, ← rs.len]; exact hz, ?_⟩
                  have t4 := Tm.set (D := D) (o' := .lst (vs ++ [yv])) h1 rfl
                  exact ⟨φ3, _, (p.trans p2).trans p3, ((tm.trans t1).trans t2).trans (t3.trans t4), g3.set (c' := .lst (acc ++ [y])) (o' := .lst (vs ++ [yv])) ha fl rfl rfl fun tm2 => ⟨_, upd_same, (rs.mono (List.prefix_refl _) tm2).app (.cons (ry.mono (List.prefix_refl _) tm2) .nil)⟩, fl, by omega, q3.mono (List.prefix_refl _) t4⟩
                · exact q3.elim
              · exact q3.elim
    · exact q.elim
  · rw [List.drop_eq_nil_of_le (by omega)] at q
    unfold loopC at q
    split at q
    · rename_i ow
      obtain ⟨hs, _⟩ := hq φ S H p tm g ow
      exact .inl ⟨hs i (by show items.length ≤ i; omega), q φ H () (List.prefix_refl _) (Tm.refl _ _) g trivial⟩
    · exact q.elim
theorem comp_run (hK : X.K = D.K) {own : List (PySem.Str × Nat)} {t : Tg} {it : It} {c : Eo} {e : E} (ht : ∀ i ∈ tgs t, i ∈ own.map (·.2)) {σ : L2.St} {H : Hp} {Q : VK} (q : tI D P cf W (.comp (own.map (·.2)) t it c e) σ H Q) :
    tLc (tIq D P cf W it) (gOf X.K t) (tIc D P cf WF c) (tI D P cf WF e) (own.map (·.2)) σ H Q := by
  obtain ⟨φ, env, S, g, en, q⟩ := q
  unfold ev at q
  refine ⟨φ, env, S, g, en, q.bind fun sq S1 φ1 H1 J _ p1 t1 g1 r1 q1 => fun Dl hD => ?_⟩
  have e1 : (φ1 ++ [Dl])[S1.length]? = some Dl := by
    rw [← g1.len, List.getElem?_append_right (Nat.le_refl _), Nat.sub_self]; rfl
  have g2 := g1.new (c := .lst []) (o := .lst []) hD ⟨[], upd_same, .nil⟩ rfl
  have t2 : Tm D H1 (upd H1 Dl (.lst [])) := Tm.new hD
  have q2 := q1.mono (List.prefix_append φ1 [Dl]) t2
  refine loopC_run (e := e) (X := X) (items := sq.items) (w := sq.watch) (l := S1.length) r1 (en.mono p1 t1) ht hK (List.prefix_append _ _) t2 g2 e1 ?_
  refine (q2.bind (rel := fun _ _ (_ : Unit) (_ : Unit) => True) fun u S3 φ3 H3 _ _ p3 t3 g3 _ q3 => q3.here g3 (.ref (pre_at p3 e1))) |> fun z => ?_
  cases hL : loopC t (own.map (·.2)) (evc P cf c) (ev P cf e) S1.length sq.watch env sq.items (S1 ++ [.lst []]) with
  | val u S3 => rw [hL] at z; exact z
  | exc c1 d1 S3 => rw [hL] at z; exact z
  | stuck => rw [hL] at z; exact z
theorem noX_bind {α β : Type} {γ δ : Type} {r : R α} {f : α → Store → R β} {rel : List Addr → Hp → β → γ → Prop} {rel1 : List Addr → Hp → α → δ → Prop} {φ : List Addr} {H : Hp} {Q : γ → Hp → Prop} {Q1 : δ → Hp → Prop} {Ex Ex1 : XK} (q : SatR D (noX (r.bind f)) rel φ H Q Ex)
    (k : ∀ (a : α) (S1 : Store) (φ1 : List Addr) (H1 : Hp) (v : δ), φ <+: φ1 → Tm D H H1 → Sim D φ1 S1 H1 → rel1 φ1 H1 a v → SatR D (noX (f a S1)) rel φ1 H1 Q Ex → Q1 v H1) : SatR D r rel1 φ H Q1 Ex1 ∧ ∃ a S1, r = .val a S1 := by
  cases r with
  | stuck => exact q.elim
  | exc c d S1 => exact q.elim
  | val a S1 => 
    have q : SatR D (noX (f a S1)) rel φ H Q Ex := q
    exact ⟨fun φ1 H1 v p t g rv => k a S1 φ1 H1 v p t g rv (q.mono p t), a, S1, rfl⟩
theorem noX_sat {α γ : Type} {r : R α} {rel : List Addr → Hp → α → γ → Prop} {φ : List Addr} {H : Hp} {Q : γ → Hp → Prop} {Ex Ex1 : XK} (q : SatR D r rel φ H Q Ex) (h : ∃ a S1, r = .val a S1) : SatR D (noX r) rel φ H Q Ex1 := by
  obtain ⟨a, S1, rfl⟩ := h
  exact q
theorem loopG_run {t t1 : Tg} {own own1 : List Nat} {c c1 : Eo} {e : E} {it1 : It} {l : Nat} {w : List (Nat × List U)} {env : Env} {σ : L2.St} {J : L2.It} {items : List U} {φ0 : List Addr} {H0 : Hp} {Dl : Addr} {Qd : Hp → Prop}
    (hq : RelQ D φ0 H0 ⟨items, w⟩ J) (he0 : RelE D φ0 H0 env σ) (ht : ∀ i ∈ tgs t, i ∈ own) (ht1 : ∀ i ∈ tgs t1, i ∈ own1) (hK : X.K = D.K)
    {φ : List Addr} {S : Store} {H : Hp} (p : φ0 <+: φ) (tm : Tm D H0 H) (g : Sim D φ S H) (hl : φ[l]? = some Dl)
    (q : SatR D (noX (loopG t own (fun env1 S1 => (evc P cf c env1 S1).bind fun k S1 => if k then (evi P cf it1 env1 S1).bind fun q1 S2 => loopC t1 own1 (evc P cf c1) (ev P cf e) l q1.watch env1 q1.items S2 else .val () S1) w env items S)) (fun _ _ (_ : Unit) (_ : Unit) => True) φ H (fun _ H' => Qd H') (fun _ _ _ => False)) :
    ∃ Wi : Nat → Nat → Hp → Prop, (∃ m, Wi 0 m H) ∧ ∀ i m H, Wi i m H → (J.stop i H ∧ Qd H) ∨ (J.go i H ∧ ∃ Nx : Hp → Prop, (∀ H', Nx H' → ∃ m', m' < m ∧ Wi (i + 1) m' H') ∧
      ∀ x H', J.yld i H x H' → gOf X.K t x (wipe σ own) H' fun σ2 H2 => wipe σ2 own = wipe σ own ∧ tIc D P cf WF c σ2 H2 fun b H3 => if b = true then tIq D P cf WF it1 σ2 H3 fun J1 H4 =>
        ∃ W1 : Nat → Nat → Hp → Prop, (∃ m, W1 0 m H4) ∧ ∀ j k H, W1 j k H → (J1.stop j H ∧ Nx H) ∨ (J1.go j H ∧ ∃ Nx1 : Hp → Prop, (∀ H', Nx1 H' → ∃ k', k' < k ∧ W1 (j + 1) k' H') ∧
          ∀ x H', J1.yld j H x H' → gOf X.K t1 x (wipe σ2 own1) H' fun σ3 H5 => wipe σ3 own1 = wipe σ2 own1 ∧ tIc D P cf WF c1 σ3 H5 fun b H6 => if b = true then tI D P cf WF e σ3 H6 fun y H7 => ∃ acc, H7 Dl = some (.lst acc) ∧ acc.length < sizeLine ∧ Nx1 (upd H7 Dl (.lst (acc ++ [y]))) else Nx1 H6) else Nx H3) := by
  let bd : Env → Store → R Unit := fun env1 S1 => (evc P cf c env1 S1).bind fun k S1 => if k then (evi P cf it1 env1 S1).bind fun q1 S2 => loopC t1 own1 (evc P cf c1) (ev P cf e) l q1.watch env1 q1.items S2 else .val () S1
  let Wi : Nat → Nat → Hp → Prop := fun i m H => ∃ φ S, φ0 <+: φ ∧ Tm D H0 H ∧ Sim D φ S H ∧ φ[l]? = some Dl ∧ i + m = items.length ∧ SatR D (noX (loopG t own bd w env (items.drop i) S)) (fun _ _ (_ : Unit) (_ : Unit) => True) φ H (fun _ H' => Qd H') (fun _ _ _ => False)
  refine ⟨Wi, ⟨items.length, φ, S, p, tm, g, hl, by omega, q⟩, fun i m H hW => ?_⟩
  obtain ⟨φ, S, p, tm, g, hl, him, q⟩ := hW
  by_cases hi : i < items.length
  · have hd : items.drop i = items[i] :: items.drop (i + 1) := List.drop_eq_getElem_cons hi
    rw [hd] at q
    unfold loopG at q
    split at q
    · rename_i ow
      obtain ⟨_, hq2⟩ := hq φ S H p tm g ow
      obtain ⟨go, yl⟩ := hq2 i items[i] (List.getElem?_eq_getElem hi)
      refine .inr ⟨go, Wi (i + 1) (m - 1), fun H' hN => ⟨m - 1, by omega, hN⟩, fun x H' hy => ?_⟩
      obtain ⟨t1', g1, r1⟩ := yl x H' hy
      cases hb : bindT t items[i] (wipeU env own) with
      | none => rw [hb] at q; exact q.elim
      | some env1 =>
        rw [hb] at q
        refine g_run hK r1 (((he0.mono p (tm.trans t1'))).wipe own) hb fun σ1 e1 hw => ⟨by rw [hw own ht, wipe_wipe σ own own fun _ h => h], ?_⟩
        have q' : SatR D (noX ((bd env1 S).bind fun _ S1 => loopG t own bd w env (items.drop (i + 1)) S1)) (fun _ _ (_ : Unit) (_ : Unit) => True) φ H' (fun _ H' => Qd H') (fun _ _ _ => False) := q.mono (List.prefix_refl _) t1'
        dsimp only [bd] at q'
        rw [R.bind_assoc] at q'
        refine ⟨φ, env1, S, g1, e1, ?_⟩
        refine (noX_bind (rel1 := fun _ _ (a b : Bool) => a = b) q' fun k S1 φ2 H2 k' p2 t2 g2 rk q2 => ?_).1
        subst rk
        cases k with
        | false =>
          rw [if_neg Bool.false_ne_true] at q2 ⊢
          exact ⟨φ2, S1, p.trans p2, (tm.trans t1').trans t2, g2, pre_at p2 hl, by omega, q2⟩
        | true =>
          rw [if_pos rfl] at q2 ⊢
          rw [R.bind_assoc] at q2
          refine ⟨φ2, env1, S1, g2, e1.mono p2 t2, ?_⟩
          refine (noX_bind (rel1 := RelQ D) q2 fun sq S2 φ3 H3 J1 p3 t3 g3 rj q3 => ?_).1
          have hb3 := noX_bind (rel1 := fun _ _ (_ : Unit) (_ : Unit) => True) (Q1 := fun _ H' => Wi (i + 1) (m - 1) H') (Ex1 := fun _ _ _ => False) q3 fun _ S4 φ4 H4 _ p4 t4 g4 _ q4 => ⟨φ4, S4, ((p.trans p2).trans p3).trans p4, (((tm.trans t1').trans t2).trans t3).trans t4, g4, pre_at p4 (pre_at p3 (pre_at p2 hl)), by omega, q4⟩
          exact loopC_run (X := X) (e := e) (items := sq.items) (w := sq.watch) (l := l) rj (e1.mono (p2.trans p3) (t2.trans t3)) ht1 hK (List.prefix_refl _) (Tm.refl _ _) g3 (pre_at p3 (pre_at p2 hl)) (noX_sat hb3.1 hb3.2)
    · exact q.elim
  · rw [List.drop_eq_nil_of_le (by omega)] at q
    unfold loopG at q
    split at q
    · rename_i ow
      obtain ⟨hs, _⟩ := hq φ S H p tm g ow
      exact .inl ⟨hs i (by show items.length ≤ i; omega), q φ H () (List.prefix_refl _) (Tm.refl _ _) g trivial⟩
    · exact q.elim
theorem comp2_run (hK : X.K = D.K) {own : List (PySem.Str × Nat)} {own1 : List Nat} {t t1 : Tg} {it it1 : It} {c c1 : Eo} {e : E} (ht : ∀ i ∈ tgs t, i ∈ own.map (·.2)) (ht1 : ∀ i ∈ tgs t1, i ∈ own1) {σ : L2.St} {H : Hp} {Q : VK} (q : tI D P cf W (.comp2 (own.map (·.2)) t it c own1 t1 it1 c1 e) σ H Q) :
    tLc2 (tIq D P cf W it) (gOf X.K t) (tIc D P cf WF c) (tIq D P cf WF it1) (gOf X.K t1) (tIc D P cf WF c1) (tI D P cf WF e) (own.map (·.2)) own1 σ H Q := by
  obtain ⟨φ, env, S, g, en, q⟩ := q
  unfold ev at q
  refine ⟨φ, env, S, g, en, q.bind fun sq S1 φ1 H1 J _ p1 t1' g1 r1 q1 => fun Dl hD => ?_⟩
  have e1 : (φ1 ++ [Dl])[S1.length]? = some Dl := by
    rw [← g1.len, List.getElem?_append_right (Nat.le_refl _), Nat.sub_self]; rfl
  have g2 := g1.new (c := .lst []) (o := .lst []) hD ⟨[], upd_same, .nil⟩ rfl
  have t2 : Tm D H1 (upd H1 Dl (.lst [])) := Tm.new hD
  have q2 := q1.mono (List.prefix_append φ1 [Dl]) t2
  refine loopG_run (e := e) (X := X) (items := sq.items) (w := sq.watch) (l := S1.length) r1 (en.mono p1 t1') ht ht1 hK (List.prefix_append _ _) t2 g2 e1 ?_
  refine (q2.bind (rel := fun _ _ (_ : Unit) (_ : Unit) => True) fun u S3 φ3 H3 _ _ p3 t3 g3 _ q3 => q3.here g3 (.ref (pre_at p3 e1))) |> fun z => ?_
  cases hL : loopG t (own.map (·.2)) (fun env1 S2 => (evc P cf c env1 S2).bind fun k S3 => if k then (evi P cf it1 env1 S3).bind fun q1 S4 => loopC t1 own1 (evc P cf c1) (ev P cf e) S1.length q1.watch env1 q1.items S4 else .val () S3) sq.watch env sq.items (S1 ++ [.lst []]) with
  | val u S3 => rw [hL] at z; exact z
  | exc c1 d1 S3 => rw [hL] at z; exact z
  | stuck => rw [hL] at z; exact z
end
end PyI
set_option Elab.async false
set_option linter.all false
set_option autoImplicit false
set_option maxRecDepth 100000
set_option maxHeartbeats 2000000
/-! Statements. -/
namespace PyI
open PySem L2
/-- a statement's end, brought to the abstract heap -/
def SatO (D : Wd) (o : Out) (φ : List Addr) (H : Hp) (E : Ends) (Ex : WX) : Prop := match o with
  | .nx env S => ∀ φ1 H1 σ1, φ <+: φ1 → Tm D H H1 → Sim D φ1 S H1 → RelE D φ1 H1 env σ1 → E.nx σ1 H1
  | .rt u S => ∀ φ1 H1 v, φ <+: φ1 → Tm D H H1 → Sim D φ1 S H1 → RelU D φ1 H1 u v → E.rt v H1
  | .bk env S => ∀ φ1 H1 σ1, φ <+: φ1 → Tm D H H1 → Sim D φ1 S H1 → RelE D φ1 H1 env σ1 → E.bk σ1 H1
  | .ct env S => ∀ φ1 H1 σ1, φ <+: φ1 → Tm D H H1 → Sim D φ1 S H1 → RelE D φ1 H1 env σ1 → E.ct σ1 H1
  | .exc c d env S => ∀ φ1 H1 σ1 dv, φ <+: φ1 → Tm D H H1 → Sim D φ1 S H1 → RelE D φ1 H1 env σ1 → RelD φ1 d dv → Ex (.ref (D.cA c)) dv σ1 H1
  | .stuck => False
section
variable {D : Wd} {φ φ1 : List Addr} {H H1 : Hp}
theorem SatO.mono {o : Out} {E : Ends} {Ex : WX} (h : SatO D o φ H E Ex) (hp : φ <+: φ1) (ht : Tm D H H1) : SatO D o φ1 H1 E Ex := by
  cases o with
  | nx env S => exact fun φ2 H2 v a b => h φ2 H2 v (hp.trans a) (ht.trans b)
  | rt env S => exact fun φ2 H2 v a b => h φ2 H2 v (hp.trans a) (ht.trans b)
  | bk env S => exact fun φ2 H2 v a b => h φ2 H2 v (hp.trans a) (ht.trans b)
  | ct env S => exact fun φ2 H2 v a b => h φ2 H2 v (hp.trans a) (ht.trans b)
  | exc c d env S => exact fun φ2 H2 v dv a b => h φ2 H2 v dv (hp.trans a) (ht.trans b)
  | stuck => exact h
/-- an expression within a statement -/
theorem SatO.bind {α γ : Type} {r : R α} {f : α → Store → Out} {env : Env} {σ : L2.St} {rel : List Addr → Hp → α → γ → Prop} {E : Ends} {Ex : WX} {Q1 : γ → Hp → Prop} (en : RelE D φ H env σ) (h : SatO D (r.out env f) φ H E Ex)
    (k : ∀ (a : α) (S1 : Store) (φ1 : List Addr) (H1 : Hp) (v : γ), r = .val a S1 → φ <+: φ1 → Tm D H H1 → Sim D φ1 S1 H1 → rel φ1 H1 a v → SatO D (f a S1) φ1 H1 E Ex → Q1 v H1) : SatR D r rel φ H Q1 (fun c d H1 => Ex c d σ H1) := by
  cases r with
  | val u S => exact fun φ2 H2 v a b g e => k u S φ2 H2 v rfl a b g e (SatO.mono (o := f u S) h a b)
  | exc c d S => exact fun φ2 H2 dv a b g e => h φ2 H2 σ dv a b g (en.mono a b) e
  | stuck => exact h
end
def tS (D : Wd) (P : Pg) (cf : Nat → List U → Store → R U) (n : Nat) (W : WX) (s : St) : TS := fun E σ H => ∃ φ env S, Sim D φ S H ∧ RelE D φ H env σ ∧ SatO D (ex P cf n s env S) φ H E W
def tSs (D : Wd) (P : Pg) (cf : Nat → List U → Store → R U) (n : Nat) (W : WX) (s : Sts) : TS := fun E σ H => ∃ φ env S, Sim D φ S H ∧ RelE D φ H env σ ∧ SatO D (exs P cf n s env S) φ H E W
theorem PS.imp {X : Cx} {e : Stmt} {t t' : TS} (h : PS X e t) (k : ∀ D σ H, t' D σ H → t D σ H) : PS X e t' := ⟨fun pins s σ H Q I q => h.run pins s σ H Q I (k _ _ _ q)⟩
theorem PSs.imp {X : Cx} {e : List Stmt} {t t' : TS} (h : PSs X e t) (k : ∀ D σ H, t' D σ H → t D σ H) : PSs X e t' := ⟨fun pins s σ H Q I q => h.run pins s σ H Q I (k _ _ _ q)⟩
section
variable {D : Wd} {G : Gc} {P : Pg} {cf : Nat → List U → Store → R U} {j n : Nat} {C : Cfg} {W : WX} {X : Cx}
theorem iss_nil : PSs X [] (tSs D P cf n W .nil) := PSs.imp pss_nil fun E σ H ⟨φ, env, S, g, e, q⟩ => by
  unfold exs at q
  exact q φ H σ (List.prefix_refl _) (Tm.refl _ _) g e
theorem iss_cons {s : St} {r : Sts} {st : Stmt} {sts : List Stmt} (h1 : PS X st (tS D P cf n W s)) (h2 : PSs X sts (tSs D P cf n W r)) : PSs X (st :: sts) (tSs D P cf n W (.cons s r)) := by
  refine PSs.imp (pss_cons h1 h2) fun E σ H ⟨φ, env, S, g, e, q⟩ => ?_
  unfold exs at q
  refine ⟨φ, env, S, g, e, ?_⟩
  cases h : ex P cf n s env S with
  | nx env1 S1 =>
    rw [h] at q
    exact fun φ1 H1 σ1 p t g1 e1 => ⟨φ1, env1, S1, g1, e1, q.mono p t⟩
  | rt u S1 => rw [h] at q; exact q
  | bk env1 S1 => rw [h] at q; exact q
  | ct env1 S1 => rw [h] at q; exact q
  | exc c d env1 S1 => rw [h] at q; exact q
  | stuck => rw [h] at q; exact q
theorem is_pass {pos : Pos} : PS X (.Pass pos) (tS D P cf n W .pass) := PS.imp ps_pass fun E σ H ⟨φ, env, S, g, e, q⟩ => by
  unfold ex at q
  exact q φ H σ (List.prefix_refl _) (Tm.refl _ _) g e
theorem is_brk {pos : Pos} : PS X (.Break pos) (tS D P cf n W .brk) := PS.imp ps_break fun E σ H ⟨φ, env, S, g, e, q⟩ => by
  unfold ex at q
  exact q φ H σ (List.prefix_refl _) (Tm.refl _ _) g e
theorem is_cnt {pos : Pos} : PS X (.Continue pos) (tS D P cf n W .cnt) := PS.imp ps_continue fun E σ H ⟨φ, env, S, g, e, q⟩ => by
  unfold ex at q
  exact q φ H σ (List.prefix_refl _) (Tm.refl _ _) g e
def isComp : Expr → Bool
  | .ListComp _ _ _ _ => true
  | .SetComp _ _ _ _ => true
  | .DictComp _ _ _ _ _ => true
  | _ => false
theorem no_swap {x : Expr} {t : Option Expr} {l : Nat} {env : PySem.Env} (h : isComp x = false) : swapsWith x t l env = pure false := by
  cases x <;> first | rfl | cases h
theorem is_exp {a : E} {x : Expr} {pos : Pos} (ha : PE X x (tI D P cf W a)) (h : isComp x = false) : PS X (.Expr x pos) (tS D P cf n W (.exp a)) := by
  refine PS.imp (ps_expr ha (no_swap h)) fun E σ H ⟨φ, env, S, g, e, q⟩ => ?_
  unfold ex at q
  exact ⟨φ, env, S, g, e, SatO.bind e q fun u S1 φ1 H1 v _ p1 t1 g1 r1 q1 => q1 φ1 H1 σ (List.prefix_refl _) (Tm.refl _ _) g1 (e.mono p1 t1)⟩
theorem is_ret {a : E} {x : Expr} {pos : Pos} (ha : PE X x (tI D P cf W a)) : PS X (.Return (some x) pos) (tS D P cf n W (.ret a)) := by
  refine PS.imp (ps_ret ha) fun E σ H ⟨φ, env, S, g, e, q⟩ => ?_
  unfold ex at q
  exact ⟨φ, env, S, g, e, SatO.bind e q fun u S1 φ1 H1 v _ p1 t1 g1 r1 q1 => q1 φ1 H1 v (List.prefix_refl _) (Tm.refl _ _) g1 r1⟩
theorem is_retN {pos : Pos} : PS X (.Return none pos) (tS D P cf n W .retN) := PS.imp ps_retN fun E σ H ⟨φ, env, S, g, e, q⟩ => by
  unfold ex at q
  exact q φ H .non (List.prefix_refl _) (Tm.refl _ _) g .non
theorem is_if {c : E} {a b : Sts} {x : Expr} {as bs : List Stmt} {pos : Pos} (hc : PT X x (tIt D P cf W c)) (ha : PSs X as (tSs D P cf n W a)) (hb : PSs X bs (tSs D P cf n W b)) : PS X (.If x as bs pos) (tS D P cf n W (.ifS c a b)) := by
  refine PS.imp (ps_if hc ha hb) fun E σ H ⟨φ, env, S, g, e, q⟩ => ?_
  unfold ex at q
  refine ⟨φ, env, S, g, e, SatO.bind e q fun k S1 φ1 H1 k' _ p1 t1 g1 r1 q1 => ?_⟩
  subst r1
  cases k with
  | true => rw [if_pos rfl] at q1 ⊢; exact ⟨φ1, env, S1, g1, e.mono p1 t1, q1⟩
  | false => rw [if_neg Bool.false_ne_true] at q1 ⊢; exact ⟨φ1, env, S1, g1, e.mono p1 t1, q1⟩
/-- name = e, a, b = e -/
theorem is_asg (hK : X.K = D.K) {t : Tg} {a : E} {tg x : Expr} {pos : Pos} (ha : PE X x (tI D P cf W a)) (hg : PG X tg (gOf X.K t)) (hx : isComp x = false) (hw : swappedStores [tg] x X.env = pure none) (h1 : (assignEach [tg] X.env).map (·.2) = [assign tg X.env]) : PS X (.Assign [tg] x pos) (tS D P cf n W (.asg t a)) := by
  refine PS.imp (ps_asg ha hg (no_swap hx) hw h1) fun E σ H ⟨φ, env, S, g, e, q⟩ => ?_
  unfold ex at q
  refine ⟨φ, env, S, g, e, SatO.bind e q fun u S1 φ1 H1 v _ p1 t1 g1 r1 q1 => ?_⟩
  cases hb : bindT t u env with
  | none => rw [hb] at q1; exact q1.elim
  | some env1 =>
    rw [hb] at q1
    exact g_run hK r1 (e.mono p1 t1) hb fun σ1 e1 _ => q1 φ1 H1 σ1 (List.prefix_refl _) (Tm.refl _ _) g1 e1
theorem is_set {i : Nat} {a : E} {y : PySem.Str} {x : Expr} {py pos : Pos} (ok : CxOk D G P cf j C W X) (ha : PE X x (tI D P cf W a)) (hl : locB C i y = true) (hx : isComp x = false) : PS X (.Assign [.Name y py] x pos) (tS D P cf n W (.asg (.nm i) a)) := by
  obtain ⟨h1, h2, h3⟩ := loc_of ok hl
  refine PS.imp (ps_set (by rw [ok.N]; exact ok.nd) h1 h2 ha (no_swap hx) h3) fun E σ H ⟨φ, env, S, g, e, q⟩ => ?_
  unfold ex at q
  refine ⟨φ, env, S, g, e, SatO.bind e q fun u S1 φ1 H1 v _ p1 t1 g1 r1 q1 => ?_⟩
  exact q1 φ1 H1 _ (List.prefix_refl _) (Tm.refl _ _) g1 ((e.mono p1 t1).set r1 i)
/-- a, b = x, y -/
theorem is_par {i k : Nat} {a b : E} {x1 x2 : Expr} {y1 y2 : PySem.Str} {px py pt pos pt2 : Pos} {kt k2 : Nat} (ok : CxOk D G P cf j C W X) (hc : C.calm = true) (hr : PA X [x1, x2] (tIs D P cf W (.cons a (.cons b .nil)))) (hl1 : locB C i y1 = true) (hl2 : locB C k y2 = true) (hik : i ≠ k)
    (hrule : ∀ (t : TA), PA X [x1, x2] t → PS X (.Assign [.Tuple [.Name y1 px, .Name y2 py] kt pt] (.Tuple [x1, x2] k2 pt2) pos) (tPar i k t)) : PS X (.Assign [.Tuple [.Name y1 px, .Name y2 py] kt pt] (.Tuple [x1, x2] k2 pt2) pos) (tS D P cf n W (.asg (.tp [i, k]) (.tup (.cons a (.cons b .nil))))) := by
  refine PS.imp (hrule _ hr) fun E σ H ⟨φ, env, S, g, e, q⟩ => ?_
  unfold ex ev at q
  refine ⟨φ, env, S, g, e, ?_⟩
  have q2 : SatO D ((evs P cf (.cons a (.cons b .nil)) env S).out env fun us S => match us with
    | [u, w] => .nx ((env.set i (some u)).set k (some w)) S
    | _ => .stuck) φ H E W := by
    cases h : evs P cf (.cons a (.cons b .nil)) env S with
    | val us S1 =>
      rw [h] at q
      have q : SatO D ((if us.length ≤ LINE then R.val (U.tup us) S1 else .stuck).out env fun x S => match bindT (.tp [i, k]) x env with
        | some env1 => .nx env1 S
        | none => .stuck) φ H E W := q
      by_cases hz : us.length ≤ LINE
      · rw [if_pos hz] at q
        cases us with
        | nil => exact q.elim
        | cons u us => cases us with
          | nil => exact q.elim
          | cons w us => cases us with
            | nil => exact q
            | cons z us =>
              have hb : bindT (.tp [i, k]) (.tup (u :: w :: z :: us)) env = none := by simp [bindT]
              have q : SatO D (match bindT (.tp [i, k]) (.tup (u :: w :: z :: us)) env with
                | some env1 => .nx env1 S1
                | none => .stuck) φ H E W := q
              rw [hb] at q
              exact q.elim
      · rw [if_neg hz] at q; exact q.elim
    | exc c d S1 => rw [h] at q; exact q
    | stuck => rw [h] at q; exact q
  refine SatO.bind e q2 fun us S1 φ1 H1 vs _ p1 t1 g1 r1 q1 => ?_
  cases r1 with
  | nil => exact q1.elim
  | cons a1 r1 => cases r1 with
    | nil => exact q1.elim
    | cons a2 r1 => cases r1 with
      | nil => exact ⟨_, _, rfl, q1 φ1 H1 _ (List.prefix_refl _) (Tm.refl _ _) g1 (((e.mono p1 t1).set a1 i).set a2 k)⟩
      | cons a3 r1 => exact q1.elim
theorem is_augA {i : Nat} {a : E} {y : PySem.Str} {x : Expr} {py pos : Pos} (ok : CxOk D G P cf j C W X) (ha : PE X x (tI D P cf W a)) (hl : locB C i y = true) : PS X (.AugAssign (.Name y py) .Add x pos) (tS D P cf n W (.aug i .add a)) := by
  obtain ⟨h1, h2, h3⟩ := loc_of ok hl
  refine PS.imp (ps_aug (by rw [ok.N]; exact ok.nd) h1 h2 ha ip_add h3) fun E σ H ⟨φ, env, S, g, e, q⟩ => ?_
  unfold ex at q
  split at q
  · rename_i u hu
    obtain ⟨v, hv, rv⟩ := e.at_ i u hu
    refine ⟨v, hv, φ, env, S, g, e, SatO.bind e q fun w S1 φ1 H1 z _ p1 t1 g1 r1 q1 => ?_⟩
    cases rv with
    | int m => cases r1 with
      | int m2 => exact ⟨m, m2, rfl, rfl, q1 φ1 H1 _ (List.prefix_refl _) (Tm.refl _ _) g1 ((e.mono p1 t1).set (.int _) i)⟩
      | _ => exact q1.elim
    | _ => cases r1 <;> exact q1.elim
  · exact q.elim
theorem is_augS {i : Nat} {a : E} {y : PySem.Str} {x : Expr} {py pos : Pos} (ok : CxOk D G P cf j C W X) (ha : PE X x (tI D P cf W a)) (hl : locB C i y = true) : PS X (.AugAssign (.Name y py) .Sub x pos) (tS D P cf n W (.aug i .sub a)) := by
  obtain ⟨h1, h2, h3⟩ := loc_of ok hl
  refine PS.imp (ps_aug (by rw [ok.N]; exact ok.nd) h1 h2 ha ip_sub h3) fun E σ H ⟨φ, env, S, g, e, q⟩ => ?_
  unfold ex at q
  split at q
  · rename_i u hu
    obtain ⟨v, hv, rv⟩ := e.at_ i u hu
    refine ⟨v, hv, φ, env, S, g, e, SatO.bind e q fun w S1 φ1 H1 z _ p1 t1 g1 r1 q1 => ?_⟩
    cases rv with
    | int m => cases r1 with
      | int m2 => exact ⟨m, m2, rfl, rfl, q1 φ1 H1 _ (List.prefix_refl _) (Tm.refl _ _) g1 ((e.mono p1 t1).set (.int _) i)⟩
      | _ => exact q1.elim
    | _ => cases r1 <;> exact q1.elim
  · exact q.elim
theorem is_while {c : E} {b : Sts} {x : Expr} {bs : List Stmt} {pos : Pos} (ok : CxOk D G P cf j C W X) (hc : PT X x (tIt D P cf W c)) (hb : PSs X bs (tSs D P cf n W b)) : PS X (.While x bs [] pos) (tS D P cf n W (.whl c b)) := by
  refine PS.imp (ps_while ok.po hc hb) fun E σ H ⟨φ, env, S, g, e, q⟩ => ?_
  unfold ex at q
  refine ⟨fun m σ H => ∃ φ env S, Sim D φ S H ∧ RelE D φ H env σ ∧ SatO D (loopW (evt P cf c) (exs P cf n b) m env S) φ H E W, ⟨n, φ, env, S, g, e, q⟩, fun m σ H ⟨φ, env, S, g, e, q⟩ => ?_⟩
  cases m with
  | zero => exact q.elim
  | succ m =>
    unfold loopW at q
    refine ⟨φ, env, S, g, e, SatO.bind e q fun k S1 φ1 H1 k' _ p1 t1 g1 r1 q1 => ?_⟩
    subst r1
    cases k with
    | false =>
      rw [if_neg Bool.false_ne_true] at q1 ⊢
      exact q1 φ1 H1 σ (List.prefix_refl _) (Tm.refl _ _) g1 (e.mono p1 t1)
    | true =>
      rw [if_pos rfl] at q1 ⊢
      refine ⟨_, fun σ' H' h => ⟨m, Nat.lt_succ_self m, h⟩, φ1, env, S1, g1, e.mono p1 t1, ?_⟩
      cases h : exs P cf n b env S1 with
      | nx env1 S2 => rw [h] at q1; exact fun φ2 H2 σ2 p2 t2 g2 e2 => ⟨φ2, env1, S2, g2, e2, q1.mono p2 t2⟩
      | ct env1 S2 => rw [h] at q1; exact fun φ2 H2 σ2 p2 t2 g2 e2 => ⟨φ2, env1, S2, g2, e2, q1.mono p2 t2⟩
      | bk env1 S2 => rw [h] at q1; exact q1
      | rt u S2 => rw [h] at q1; exact q1
      | exc c d env1 S2 => rw [h] at q1; exact q1
      | stuck => rw [h] at q1; exact q1
theorem is_for {t : Tg} {it : It} {b : Sts} {tg iter : Expr} {bs : List Stmt} {pos : Pos} (ok : CxOk D G P cf j C W X) (hcm : C.calm = true) (hi : PI X tg iter (tIq D P cf W it)) (hg : PG X tg (gOf X.K t)) (hb : PSs X bs (tSs D P cf n W b)) (hs : ∀ x, foldedSetIterable iter X.env x = pure x) : PS X (.For tg iter bs [] pos) (tS D P cf n W (.for_ t it b)) := by
  refine PS.imp (ps_for ok.po (ok.calm hcm) hi hg hb hs) fun E σ H ⟨φ, env, S, g, e, q⟩ => ?_
  unfold ex at q
  refine ⟨φ, env, S, g, e, SatO.bind e q fun sq S1 φ0 H0 J _ p0 t0 g0 r0 q0 => ?_⟩
  refine ⟨fun i m σ H => ∃ φ env S, φ0 <+: φ ∧ Tm D H0 H ∧ Sim D φ S H ∧ RelE D φ H env σ ∧ i + m = sq.items.length ∧ SatO D (loopF t (exs P cf n b) sq.watch (sq.items.drop i) env S) φ H E W,
    ⟨sq.items.length, φ0, env, S1, List.prefix_refl _, Tm.refl _ _, g0, e.mono p0 t0, by omega, q0⟩, fun i m σ H ⟨φ, env, S, p, tm, g, e, him, q⟩ => ?_⟩
  by_cases hi : i < sq.items.length
  · have hd : sq.items.drop i = sq.items[i] :: sq.items.drop (i + 1) := List.drop_eq_getElem_cons hi
    rw [hd] at q
    unfold loopF at q
    split at q
    · rename_i ow
      obtain ⟨_, hq2⟩ := r0 φ S H p tm g ow
      obtain ⟨go, yl⟩ := hq2 i sq.items[i] (List.getElem?_eq_getElem hi)
      refine .inr ⟨go, _, fun σ' H' hN => ⟨m - 1, by omega, hN⟩, fun x H' hy => ?_⟩
      obtain ⟨t1, g1, r1⟩ := yl x H' hy
      cases hbt : bindT t sq.items[i] env with
      | none => rw [hbt] at q; exact q.elim
      | some env1 =>
        rw [hbt] at q
        refine g_run ok.K r1 (e.mono (List.prefix_refl _) t1) hbt fun σ1 e1 _ => ?_
        refine ⟨φ, env1, S, g1, e1, ?_⟩
        have q' := q.mono (List.prefix_refl φ) t1
        dsimp only at q'
        cases h : exs P cf n b env1 S with
        | nx env2 S2 => rw [h] at q'; exact fun φ2 H2 σ2 p2 t2 g2 e2 => ⟨φ2, env2, S2, p.trans p2, (tm.trans t1).trans t2, g2, e2, by omega, SatO.mono q' p2 t2⟩
        | ct env2 S2 => rw [h] at q'; exact fun φ2 H2 σ2 p2 t2 g2 e2 => ⟨φ2, env2, S2, p.trans p2, (tm.trans t1).trans t2, g2, e2, by omega, SatO.mono q' p2 t2⟩
        | bk env2 S2 => rw [h] at q'; exact q'
        | rt u S2 => rw [h] at q'; exact q'
        | exc c d env2 S2 => rw [h] at q'; exact q'
        | stuck => rw [h] at q'; exact q'
    · exact q.elim
  · rw [List.drop_eq_nil_of_le (by omega)] at q
    unfold loopF at q
    split at q
    · rename_i ow
      obtain ⟨hs, _⟩ := r0 φ S H p tm g ow
      exact .inl ⟨hs i (by omega), q φ H σ (List.prefix_refl _) (Tm.refl _ _) g e⟩
    · exact q.elim
/-! ### raise, try -/
theorem is_raise (ok : CxOk D G P cf j C W X) (hc : C.calm = true) {c : Nat} {as : List Nat} {x m : PySem.Str} {k : Nat} {p p2 pos pos' : Pos} (hx : G.cnm[c]? = some x) (ha : G.exs.lookup c = some as) (h2 : gloB C x = true) : PS X (.Raise (some (.Call (.Name x p) [.Constant (.str m) k p2] [] pos)) none pos') (tS D P cf n W (.raise c .nil)) := by
  obtain ⟨hg, hd⟩ := glo_of ok h2
  obtain ⟨e1, e2, e3, e4⟩ := ok.exc c x as hx ha
  refine PS.imp (ps_raise (ok.calm hc) ok.tk (pmk_own PySem.F.excBase_ValueError e2 e1 e3 e4 hg hd)) fun E σ H ⟨φ, env, S, g, e, q⟩ => ?_
  unfold ex at q
  rw [ok.noi c as ha] at q
  exact q φ H σ none (List.prefix_refl _) (Tm.refl _ _) g e trivial
def Cfg.hot (C : Cfg) : Cfg := { C with calm := false }
theorem CxOk.suite (ok : CxOk D G P cf j C W X) (a : Addr) (pn : List (Addr × Obj)) : CxOk D G P cf j C.hot WF (X.suite a pn) where
  K := ok.K
  N := ok.N
  nd := ok.nd
  sc := ok.sc
  calm := fun h => by cases h
  room := fun h => by cases h
  tk := takes0
  po := PassesOwn.never
  fnS := ok.fnS
  fr := ok.fr
  gl := ok.gl
  top := ok.top
  exs := ok.exs
  noi := ok.noi
  exc := ok.exc
  exm := ok.exm
  fns := ok.fns
theorem CxOk.tr (ok : CxOk D G P cf j C W X) {W' : WX} {pn : List (Addr × Obj)} {xe : Value → Shared → Prop} (tk : Takes (X.tr pn xe) W') (po : PassesOwn (model X.prog X.w) X.A X.env xe) : CxOk D G P cf j C W' (X.tr pn xe) where
  K := ok.K
  N := ok.N
  nd := ok.nd
  sc := ok.sc
  calm := ok.calm
  room := ok.room
  tk := tk
  po := po
  fnS := ok.fnS
  fr := ok.fr
  gl := ok.gl
  top := ok.top
  exs := ok.exs
  noi := ok.noi
  exc := ok.exc
  exm := ok.exm
  fns := ok.fns
/-- the except clauses' list -/
def hdL (D : Wd) (P : Pg) (cf : Nat → List U → Store → R U) (n : Nat) : Hs → List (Value × (Addr → Value → Option Addr → TS))
  | .nil => []
  | .cons c h r => (.ref (D.cA c), fun _ _ _ => tSs D P cf n WF h) :: hdL D P cf n r
def hsIn (G : Gc) : Hs → Bool
  | .nil => true
  | .cons c _ r => (G.exs.lookup c).isSome && hsIn G r
theorem noXo_sat {o : Out} {φ : List Addr} {H : Hp} {E : Ends} {Ex Ex1 : WX} (q : SatO D (noXo o) φ H E Ex) : SatO D o φ H E Ex1 := by
  cases o with
  | exc c d env S => exact q.elim
  | _ => exact q
theorem exh_many (ok : CxOk D G P cf j C W X) {E : Ends} {x : Nat} {as : List Nat} {d : Option Nat} {env : Env} {S : Store} {φ : List Addr} {H : Hp} {σ : L2.St} {dv : Option Addr} (hx : G.exs.lookup x = some as) (g : Sim D φ S H) (e : RelE D φ H env σ) (rd : RelD φ d dv) :
    ∀ {hs : Hs}, hsIn G hs = true → SatO D (exh P cf n hs as x d env S) φ H E W → wMany X.K W E (hdL D P cf n hs) (.ref (D.cA x)) dv σ H
  | .nil, _, q => by
    unfold exh at q
    exact q φ H σ dv (List.prefix_refl _) (Tm.refl _ _) g e rd
  | .cons c h r, hi, q => by
    unfold hsIn at hi
    rw [Bool.and_eq_true] at hi
    obtain ⟨as', ha⟩ := Option.isSome_iff_exists.mp hi.1
    unfold exh at q
    refine ⟨decide (c ∈ as), ok.exm x c as as' hx ha, fun hb a hn => ?_, fun hb => ?_⟩
    · rw [if_pos (of_decide_eq_true hb)] at q
      exact ⟨φ, env, S, g, e, noXo_sat q⟩
    · rw [if_neg (of_decide_eq_false hb)] at q
      exact exh_many ok hx g e rd hi.2 q
theorem is_try (ok : CxOk D G P cf j C W X) (ht : C.top = true) {b : Sts} {hs : Hs} {body : List Stmt} {h₀ : ExceptHandler} {hds : List ExceptHandler} {pos : Pos} (hi : hsIn G hs = true)
    (hb : ∀ (W' : WX) (pn : List (Addr × Obj)) (xe : Value → Shared → Prop), CxOk D G P cf j C W' (X.tr pn xe) → PSs (X.tr pn xe) body (tSs D P cf n W' b)) (hh : HdsOk X (h₀ :: hds) (hdL D P cf n hs)) : PS X (.Try body (h₀ :: hds) [] [] pos) (tS D P cf n W (.tryM b hs)) := by
  obtain ⟨t1, t2⟩ := ok.top ht
  refine PS.imp (ps_try_many t1 t2 ok.tk (fun W' pn xe tk po => hb W' pn xe (ok.tr tk po)) hh) fun E σ H ⟨φ, env, S, g, e, q⟩ => ?_
  unfold ex at q
  refine ⟨φ, env, S, g, e, ?_⟩
  cases hr : exs P cf n b env S with
  | exc x d env1 S1 =>
    rw [hr] at q
    dsimp only at q
    cases hl : P.excs.lookup x with
    | none => rw [hl] at q; exact q.elim
    | some as =>
      rw [hl] at q
      intro φ1 H1 σ1 dv p1 t1 g1 e1 rd
      rw [ok.exs] at hl
      exact exh_many ok hl g1 e1 rd hi (SatO.mono q p1 t1)
  | nx env1 S1 => rw [hr] at q; exact q
  | rt u S1 => rw [hr] at q; exact q
  | bk env1 S1 => rw [hr] at q; exact q
  | ct env1 S1 => rw [hr] at q; exact q
  | stuck => rw [hr] at q; exact q
end
end PyI
set_option Elab.async false
set_option linter.all false
set_option autoImplicit false
set_option maxRecDepth 100000
set_option maxHeartbeats 2000000
/-! A term of the small machine and a piece of the text: when they are the same, and what follows: expressions. -/
namespace PyI
open PySem L2
def opB : Bop → Operator → Bool
  | .add, .Add => true
  | .sub, .Sub => true
  | .mul, .Mult => true
  | .fdiv, .FloorDiv => true
  | .mod, .Mod => true
  | .band, .BitAnd => true
  | _, _ => false
def cmB : Cop → CmpOp → Bool
  | .eq, .Eq => true
  | .ne, .NotEq => true
  | .lt, .Lt => true
  | .le, .LtE => true
  | .gt, .Gt => true
  | .ge, .GtE => true
  | .isN, .Is => true
  | .notN, .IsNot => true
  | .mem, .In => true
  | .nmem, .NotIn => true
  | .is, .Is => true
  | .isnot, .IsNot => true
  | _, _ => false
theorem cm_rule {D : Wd} {X : Cx} (hK : X.K = D.K) (hu : X.A.units + 65 < cLine) {o : Cop} {op : CmpOp} (h : cmB o op = true) : ∃ r : R2, OpR X (compareOp op) r ∧ CmpS D o r := by
  have hu4 : X.A.units + 64 < cLine := by omega
  cases o <;> cases op <;> first | cases h | skip
  · exact ⟨rCEq X.K, op_eq.or (op_eqD hu4), fun g r s q => by rw [hK]; exact cmp_eq g r s q⟩
  · exact ⟨rCNe X.K, op_ne.or (op_neD hu4), fun g r s q => by rw [hK]; exact cmp_ne g r s q⟩
  · exact ⟨_, op_lt, fun g r s q => cmp_int (o := .lt) (p := fun i j => decide (i < j)) (fun u w => by cases u <;> cases w <;> first | exact .inr rfl | exact .inl ⟨_, _, rfl, rfl, rfl⟩) g r s q⟩
  · exact ⟨_, op_le, fun g r s q => cmp_int (o := .le) (p := fun i j => decide (i ≤ j)) (fun u w => by cases u <;> cases w <;> first | exact .inr rfl | exact .inl ⟨_, _, rfl, rfl, rfl⟩) g r s q⟩
  · exact ⟨_, op_gt, fun g r s q => cmp_int (o := .gt) (p := fun i j => decide (j < i)) (fun u w => by cases u <;> cases w <;> first | exact .inr rfl | exact .inl ⟨_, _, rfl, rfl, rfl⟩) g r s q⟩
  · exact ⟨_, op_ge, fun g r s q => cmp_int (o := .ge) (p := fun i j => decide (j ≤ i)) (fun u w => by cases u <;> cases w <;> first | exact .inr rfl | exact .inl ⟨_, _, rfl, rfl, rfl⟩) g r s q⟩
  · exact ⟨_, op_isN, fun g r s q => cmp_isN g r s q⟩
  · exact ⟨_, op_notN, fun g r s q => cmp_notN g r s q⟩
  · exact ⟨rMem X.K, op_in_sign.or (op_in_seq.or (op_inD hu)), fun g r s q => by rw [hK]; exact cmp_mem g r s q⟩
  · exact ⟨rNmem X.K, op_notIn_sign.or (op_notIn_seq.or (op_notInD hu)), fun g r s q => by rw [hK]; exact cmp_nmem g r s q⟩
  · exact ⟨rIsBo, op_is_bl, fun g r s q => cmp_isB g r s q⟩
  · exact ⟨rNotBo, op_isnot_bl, fun g r s q => cmp_notB g r s q⟩
def setB : Expr → Bool
  | .Set _ _ _ => true
  | _ => false
theorem fold_set {x : Expr} {env : PySem.Env} (h : setB x = false) : ∀ v, foldedSetIterable x env v = pure v := by
  intro v
  cases x <;> first | rfl | cases h
def ownOf (C : Cfg) (own : List Nat) : List (PySem.Str × Nat) := own.map fun i => (C.N.getD i PySem.Str.empty, i)
theorem own_snd (C : Cfg) (own : List Nat) : (ownOf C own).map (·.2) = own := by
  unfold ownOf
  rw [List.map_map]
  exact List.map_id _
def isTup : Expr → Bool
  | .Tuple _ _ _ => true
  | _ => false
def callB : Expr → Bool
  | .Call (.Name _ _) [] [] _ => true
  | _ => false
def bmN : Bm → Option PySem.Str
  | .append => some "append"
  | .extend => some "extend"
  | .pop => some "pop"
  | .popAt => some "pop"
  | .insert => some "insert"
  | .index => some "index"
  | .join => some "join"
  | _ => none
/-- how many arguments; the type -/
def bm1 : Bm → Nat
  | .append => 1
  | .extend => 1
  | .popAt => 1
  | .insert => 2
  | .index => 1
  | .join => 1
  | _ => 0
def bmT : Bm → String
  | .join => "str"
  | _ => "list"
section
variable (G : Gc)
mutual
def mE (C : Cfg) : E → Expr → Bool
  | .var i, x => match x with
    | .Name x _ => varB C i x
    | _ => false
  | .int i, x => match x with
    | .Constant (.int k) _ _ => decide (i = k)
    | _ => false
  | .str i, x => match x with
    | .Constant (.str k) _ _ => decide (i = k)
    | _ => false
  | .bl i, x => match x with
    | .Constant (.bool k) _ _ => decide (i = k)
    | _ => false
  | .non, x => match x with
    | .Constant .none _ _ => true
    | _ => false
  | .glo g, x => match x with
    | .Name x _ => decide (G.gnm[g]? = some x) && gloB C x
    | _ => false
  | .fnv f, x => match x with
    | .Name x _ => decide (G.fnm[f]? = some (some x)) && gloB C x
    | _ => false
  | .bin o a b, x => match x with
    | .BinOp x op y _ => opB o op && (mE C a x && mE C b y)
    | _ => false
  | .neg a, x => match x with
    | .UnaryOp .USub x _ => mE C a x
    | _ => false
  | .cmp o a b, x => match x with
    | .Compare x [op] [y] _ => (C.calm && cmB o op && !behindInMarks op y) && (mE C a x && mE C b y)
    | _ => false
  | .cmp2 o p a b c, x => match x with
    | .Compare x [op, op'] [y, z] _ => (C.calm && cmB o op && cmB p op' && !lastMarks [op, op'] [y, z]) && (mE C a x && mE C b y && mE C c z)
    | _ => false
  | .and a b, x => match x with
    | .BoolOp .And (x :: y :: r) pos => mE C a x && (match r with
      | [] => mE C b y
      | z :: r => mE C b (.BoolOp .And (y :: z :: r) pos))
    | _ => false
  | .or a b, x => match x with
    | .BoolOp .Or (x :: y :: r) pos => mE C a x && (match r with
      | [] => mE C b y
      | z :: r => mE C b (.BoolOp .Or (y :: z :: r) pos))
    | _ => false
  | .not a, x => match x with
    | .UnaryOp .Not x _ => mE C a x
    | _ => false
  | .ife c a b, x => match x with
    | .IfExp z x y _ => mE C c z && (mE C a x && mE C b y)
    | _ => false
  | .tup es, x => match x with
    | .Tuple xs _ _ => mEs C es xs
    | _ => false
  | .lst es, x => match x with
    | .List xs _ => mEs C es xs
    | _ => false
  | .ix a b, x => match x with
    | .Subscript x y _ => !sliceB y && (mE C a x && mE C b y)
    | _ => false
  | .cut a lo hi, x => match x with
    | .Subscript x (.Slice l h none _) _ => mE C a x && (mEo C lo l && mEo C hi h)
    | _ => false
  | .fld a f, x => false
  | .call f es, x => match x with
    | .Call (.Name x _) (e0 :: xs) [] _ => (C.calm && decide (G.fnm[f]? = some (some x)) && gloB C x && (e0 :: xs).all (fun e => !starB e)) && mEs C es (e0 :: xs)
    | _ => false
  | .callv x es, _ => false
  | .meth m o es, _ => false
  | .mk c es, _ => false
  | .bi b es, x => match x with
    | .Call (.Name x _) xs [] _ => (match b, es, xs with
      | .isi t, .cons a .nil, [y, .Name n _] => (C.calm && decide (x = "isinstance") && gloB C x && decide (x ∈ G.free) && gloB C n && decide (n ∈ G.free) && decide ((tyN t).map PySem.Str.ofString = some n) && !starB y) && mE C a y
      | b, es, e0 :: xs => (match biV b with
        | some (n, _) => (C.calm && decide (x = n) && gloB C x && decide (x ∈ G.free) && (e0 :: xs).all (fun e => !starB e)) && mEs C es (e0 :: xs)
        | none => false)
      | _, _, _ => false)
    | _ => false
  | .bm b o es, x => match x with
    | .Call (.Attribute y m apos) xs [] cpos => (decide (bmN b = some m) && !callB y && (apos.endLine == cpos.line)) && (mE C o y && (match bm1 b, xs with
      | 1, [z] => !starB z && mEs C es [z]
      | 2, [z, w] => (!starB z && !starB w) && mEs C es [z, w]
      | 0, [] => (match es with
        | .nil => true
        | _ => false)
      | _, _ => false))
    | _ => false
  | .comp own t it c e, x => match x with
    | .ListComp elt [⟨tg, iter, ifs, as⟩] scope _ => (C.calm && decide (as = 0) && !setB iter && blkC C.N C.sc scope (ownOf C own) && mT (C.blkd scope) t tg && (tgs t).all (fun i => own.contains i)) && (mI C it tg iter && mEc (C.blkd scope) c ifs && mE (C.blkd scope) e elt)
    | _ => false
  | .comp2 own t it c own1 t1 it1 c1 e, x => match x with
    | .ListComp elt [⟨tg, iter, ifs, as⟩, ⟨tg1, iter1, ifs1, as1⟩] scope _ => (C.calm && decide (as = 0) && decide (as1 = 0) && !setB iter && !setB iter1 && blkC C.N C.sc scope (ownOf C own) && mT (C.blkd scope) t tg && mT (C.blkd scope) t1 tg1 && (tgs t).all (fun i => own.contains i) && (tgs t1).all (fun i => own1.contains i) && own1.all (fun i => own.contains i)) && (mI C it tg iter && mEc (C.blkd scope) c ifs && (mI (C.blkd scope) it1 tg1 iter1 && mEc (C.blkd scope) c1 ifs1 && mE (C.blkd scope) e elt))
    | _ => false
  | .dict0, _ => false
def mEs (C : Cfg) : Es → List Expr → Bool
  | .nil, xs => xs.isEmpty
  | .cons e r, xs => match xs with
    | x :: xs => !starB x && (mE C e x && mEs C r xs)
    | [] => false
def mEo (C : Cfg) : Eo → Option Expr → Bool
  | .none, x => x.isNone
  | .some e, x => match x with
    | some x => mE C e x
    | none => false
def mEc (C : Cfg) : Eo → List Expr → Bool
  | .none, xs => xs.isEmpty
  | .some e, xs => match xs with
    | [x] => mE C e x
    | _ => false
def mI (C : Cfg) : It → Expr → Expr → Bool
  | .seq e, _, x => mE C e x
  | .chars e, _, x => mE C e x
  | .rng1 e, _, x => match x with
    | .Call (.Name n _) [x] [] _ => (decide (n = "range") && gloB C "range" && decide (("range" : PySem.Str) ∈ G.free) && !starB x) && mE C e x
    | _ => false
  | .rng2 a b, _, x => match x with
    | .Call (.Name n _) [x, y] [] _ => (decide (n = "range") && gloB C "range" && decide (("range" : PySem.Str) ∈ G.free) && !starB x && !starB y) && (mE C a x && mE C b y)
    | _ => false
  | .rev e, _, x => match x with
    | .Call (.Name n _) [x] [] _ => (decide (n = "reversed") && gloB C "reversed" && decide (("reversed" : PySem.Str) ∈ G.free) && !starB x) && mE C e x
    | _ => false
  | .enum e, tg, x => match x with
    | .Call (.Name n _) [x] [] _ => (isTup tg && decide (n = "enumerate") && gloB C "enumerate" && decide (("enumerate" : PySem.Str) ∈ G.free) && !starB x) && mE C e x
    | _ => false
  | .zip a b, tg, x => match x with
    | .Call (.Name n _) [x, y] [] _ => (isTup tg && decide (n = "zip") && gloB C "zip" && decide (("zip" : PySem.Str) ∈ G.free) && !starB x && !starB y) && (mE C a x && mE C b y)
    | _ => false
end
end
section
variable {D : Wd} {G : Gc} {P : Pg} {cf : Nat → List U → Store → R U} {j : Nat} {C : Cfg} {W : WX} {X : Cx}
theorem b2 {a b : Bool} (h : (a && b) = true) : a = true ∧ b = true := Bool.and_eq_true_iff.mp h
theorem nb {a : Bool} (h : (!a) = true) : a = false := by simpa using h
theorem CxOk.units (ok : CxOk D G P cf j C W X) (hc : C.calm = true) : X.A.units + 65 < cLine := by
  have := (ok.room hc).un; omega
theorem bm_few {b : Bm} {z : Expr} {cpos : Pos} {env : PySem.Env} (h : starB z = false) : ((backTo cpos (starEach [z] env)).all (fun x => !x.1) && (backToKw cpos (keywordEach [] env)).all (fun x => x.1.isSome) && decide (([z] : List Expr).length + ([] : List Keyword).length + (if ([] : List Keyword).isEmpty then 0 else 1) < 30)) = true := by
  rw [star_cons h]; rfl
theorem attr_base {y : Expr} {m : PySem.Str} {env : PySem.Env} (h : callB y = false) : attributeBase y m env (eval y env) = eval y env := by
  cases y with
  | Call f as ks pos => cases f with
    | Name x p => cases as with
      | nil => cases ks with
        | nil => cases h
        | cons k ks => rfl
      | cons a as => rfl
    | _ => rfl
  | _ => rfl
theorem bm_few2 {z w : Expr} {cpos : Pos} {env : PySem.Env} (h : starB z = false) (h2 : starB w = false) : ((backTo cpos (starEach [z, w] env)).all (fun x => !x.1) && (backToKw cpos (keywordEach [] env)).all (fun x => x.1.isSome) && decide (([z, w] : List Expr).length + ([] : List Keyword).length + (if ([] : List Keyword).isEmpty then 0 else 1) < 30)) = true := by
  rw [star_cons h, star_cons h2]; rfl
theorem ty_list {b : Bm} {φ : List Addr} {H : Hp} {S : Store} {u : U} {v : V} (g : Sim D φ S H) (r : RelU D φ H u v) (h : tyU b S u = true) : tyV D.K (bmT b) v H := by
  have fin : ∀ {l : Nat} {a : Addr}, φ[l]? = some a → (match S[l]? with | some (Cell.lst _) => true | _ => false) = true → tyV D.K "list" (.ref a) H := fun {l a} f h => by
    split at h
    · rename_i us e
      obtain ⟨vs, h1, _⟩ := g.cell l _ a e f
      exact .inl ⟨rfl, vs, .of h1⟩
    · cases h
  cases r with
  | ref f =>
    cases b <;> first | exact fin f h | cases h
  | str x => cases b <;> first | exact (rfl : ("str" : String) = "str") | cases h
  | _ => cases b <;> cases h
theorem bm_rule {b : Bm} {m : PySem.Str} (hm : bmN b = some m) : ∃ id, PlainAttrs (bmT b) ∧ Slot (bmT b) m id ∧ typeOf (.builtin id) = pure (.type "method_descriptor") ∧ MtR X id (rBm X.K b) := by
  cases b with
  | append => cases hm; exact ⟨_, PySem.F.plainAttrs_list, PySem.F.slot_list_append, PySem.F.type_list_append, mt_append⟩
  | extend => cases hm; exact ⟨_, PySem.F.plainAttrs_list, PySem.F.slot_list_extend, PySem.F.type_list_extend, mt_extend⟩
  | pop => cases hm; exact ⟨_, PySem.F.plainAttrs_list, PySem.F.slot_list_pop, PySem.F.type_list_pop, mt_pop⟩
  | popAt => cases hm; exact ⟨_, PySem.F.plainAttrs_list, PySem.F.slot_list_pop, PySem.F.type_list_pop, mt_popAt⟩
  | insert => cases hm; exact ⟨_, PySem.F.plainAttrs_list, PySem.F.slot_list_insert, PySem.F.type_list_insert, mt_insert⟩
  | index => cases hm; exact ⟨_, PySem.F.plainAttrs_list, PySem.F.slot_list_index, PySem.F.type_list_index, mt_index⟩
  | join => cases hm; exact ⟨_, PySem.F.plainAttrs_str, PySem.F.slot_str_join, PySem.F.type_str_join, mt_join⟩
  | _ => cases hm
theorem ie_bm1 (hK : X.K = D.K) {b : Bm} {m : PySem.Str} {o : E} {es : Es} {y z : Expr} {apos cpos : Pos} (hm : bmN b = some m) (hy : callB y = false) (hl : (apos.endLine == cpos.line) = true) (hs : starB z = false) (ho : PE X y (tI D P cf W o)) (hz : PA X [z] (tIs D P cf W es)) :
    PE X (.Call (.Attribute y m apos) [z] [] cpos) (tI D P cf W (.bm b o es)) := by
  obtain ⟨id, h0, h1, h2, h3⟩ := bm_rule (X := X) hm
  refine PE.imp (pe_bm h0 h1 h2 h3 ho hz (attr_base hy) (bm_few (b := b) hs) hl (star_cons hs) rfl) fun σ H Q ⟨φ, env, S, g, e, q⟩ => ?_
  unfold ev at q
  refine ⟨φ, env, S, g, e, q.bind fun u S1 φ1 H1 v _ p1 t1 g1 r1 q1 => ?_⟩
  split at q1
  · rename_i ty
    refine ⟨by rw [hK]; exact ty_list g1 r1 ty, φ1, env, S1, g1, e.mono p1 t1, q1.bind fun us S2 φ2 H2 vs _ p2 t2 g2 r2 q2 => ?_⟩
    rw [hK]
    exact app_okU g2 (r1.mono p2 t2) r2 q2
  · exact q1.elim
theorem ie_bm2 (hK : X.K = D.K) {b : Bm} {m : PySem.Str} {o : E} {es : Es} {y z w : Expr} {apos cpos : Pos} (hm : bmN b = some m) (hy : callB y = false) (hl : (apos.endLine == cpos.line) = true) (hs : starB z = false) (hs2 : starB w = false) (ho : PE X y (tI D P cf W o)) (hz : PA X [z, w] (tIs D P cf W es)) :
    PE X (.Call (.Attribute y m apos) [z, w] [] cpos) (tI D P cf W (.bm b o es)) := by
  obtain ⟨id, h0, h1, h2, h3⟩ := bm_rule (X := X) hm
  refine PE.imp (pe_bm h0 h1 h2 h3 ho hz (attr_base hy) (bm_few2 hs hs2) hl (star_cons hs) (star_any (by simp [hs2]))) fun σ H Q ⟨φ, env, S, g, e, q⟩ => ?_
  unfold ev at q
  refine ⟨φ, env, S, g, e, q.bind fun u S1 φ1 H1 v _ p1 t1 g1 r1 q1 => ?_⟩
  split at q1
  · rename_i ty
    refine ⟨by rw [hK]; exact ty_list g1 r1 ty, φ1, env, S1, g1, e.mono p1 t1, q1.bind fun us S2 φ2 H2 vs _ p2 t2 g2 r2 q2 => ?_⟩
    rw [hK]
    exact app_okU g2 (r1.mono p2 t2) r2 q2
  · exact q1.elim
theorem ie_bm0 (hK : X.K = D.K) {b : Bm} {m : PySem.Str} {o : E} {y : Expr} {apos cpos : Pos} (hm : bmN b = some m) (hy : callB y = false) (hl : (apos.endLine == cpos.line) = true) (ho : PE X y (tI D P cf W o)) :
    PE X (.Call (.Attribute y m apos) [] [] cpos) (tI D P cf W (.bm b o .nil)) := by
  obtain ⟨id, h0, h1, h2, h3⟩ := bm_rule (X := X) hm
  refine PE.imp (pe_bm0 h0 h1 h2 h3 ho (attr_base hy) hl) fun σ H Q ⟨φ, env, S, g, e, q⟩ => ?_
  unfold ev at q
  refine ⟨φ, env, S, g, e, q.bind fun u S1 φ1 H1 v _ p1 t1 g1 r1 q1 => ?_⟩
  split at q1
  · rename_i ty
    refine ⟨by rw [hK]; exact ty_list g1 r1 ty, ?_⟩
    unfold evs at q1
    have q2 : SatR D (bmU b u [] S1) (RelU D) φ1 H1 Q (fun c d H1 => W c d σ H1) := q1
    rw [hK]
    exact app_okU g1 r1 .nil q2
  · exact q1.elim
/-- isinstance(x, T) -/
theorem ie_isi (ok : CxOk D G P cf j C W X) {t : Ty} {a : E} {y : Expr} {n x : PySem.Str} {p p2 pos : Pos} (hx : x = "isinstance") (h1 : gloB C x = true) (hf : x ∈ G.free) (h2 : gloB C n = true) (hf2 : n ∈ G.free) (hn : (tyN t).map PySem.Str.ofString = some n) (hs : starB y = false) (ha : PE X y (tI D P cf W a)) :
    PE X (.Call (.Name x p) [y, .Name n p2] [] pos) (tI D P cf W (.bi (.isi t) (.cons a .nil))) := by
  subst hx
  obtain ⟨hg, hd⟩ := glo_of ok h1
  obtain ⟨hg2, hd2⟩ := glo_of ok h2
  have hb : ∃ m, tyN t = some m ∧ n = PySem.Str.ofString m ∧ bootBuiltins n = some (.type m) ∧ n ≠ "__name__" := by
    cases t <;> cases hn <;> exact ⟨_, rfl, rfl, by decide +kernel, by decide⟩
  obtain ⟨m, hm, _, hv, hne⟩ := hb
  refine PE.imp (pe_callB call_isi hg (ok.fr _ hf) (by decide +kernel) (pa_cons ha (pa_cons (pe_bltn (v := .ty m) (u := .type m) hg2 (ok.fr _ hf2) hv rfl hne hd2) pa_nil rfl) (star_cons hs)) (by decide) hd (star_cons hs) rfl) fun σ H Q ⟨φ, env, S, g, e, q⟩ => ?_
  unfold ev evs evs at q
  rw [R.bind_assoc] at q
  refine ⟨φ, env, S, g, e, q.bind fun u S1 φ1 H1 v _ p1 t1 g1 r1 q1 => ?_⟩
  have q1 : SatR D (ofO S1 ((isiU S1 u t).map .bl)) (RelU D) φ1 H1 Q (fun c d H1 => W c d σ H1) := q1
  obtain ⟨z, hz, q1⟩ := q1.ofO
  obtain ⟨k, hk, rfl⟩ := Option.map_eq_some_iff.mp hz
  obtain ⟨n', m', e1, e2, e3⟩ := isi_ok g1 r1 hk
  rw [hm] at e1
  cases e1
  show rIsi X.K [v, .ty m] H1 Q
  rw [ok.K]
  exact ⟨v, .ty m, _, _, k, rfl, .ty m, e2, kit_ty e3, q1.here g1 (.bl _)⟩
theorem op_rule (hK : X.K = D.K) {o : Bop} {op : Operator} (h : opB o op = true) : ∃ r : R2, OpR X (binaryOp op) r ∧ ∀ {φ : List Addr} {H : Hp} {S : Store} {u w : U} {x y : V} {Q : VK} {Ex : XK}, Sim D φ S H → RelU D φ H u x → RelU D φ H w y → SatR D (binU o u w S) (RelU D) φ H Q Ex → r x y H Q := by
  cases o <;> cases op <;> first | cases h | skip
  · exact ⟨rAdds X.K, opAdds, fun g r s q => by rw [hK]; exact bin_add g r s q⟩
  · exact ⟨_, op_sub, fun g r s q => bin_sub g r s q⟩
  · exact ⟨_, op_mul.or op_rep, fun g r s q => bin_mul g r s q⟩
  · exact ⟨_, op_fdivW, fun g r s q => bin_fdiv g r s q⟩
  · exact ⟨_, op_mod, fun g r s q => bin_mod g r s q⟩
  · exact ⟨_, op_andM, fun g r s q => bin_band g r s q⟩
theorem ic_none : PTs X [] (tIc D P cf W .none) := PTs.imp pts_nil fun σ H Q ⟨φ, env, S, g, e, q⟩ => by
  unfold evc at q
  exact SatR.here (rel := fun _ _ (a b : Bool) => a = b) q g rfl
theorem ic_some {a : E} {x : Expr} (h : PT X x (tIt D P cf W a)) : PTs X [x] (tIc D P cf W (.some a)) := PTs.imp (pts_one h) fun σ H Q ⟨φ, env, S, g, e, q⟩ => ⟨φ, env, S, g, e, by unfold evc at q; exact q⟩
/-- an expression of a kind that is no and, or, not, comparison, if: a test by its value -/
def plainT : Expr → Bool
  | .UnaryOp .Not _ _ => false
  | .BoolOp _ _ _ => false
  | .IfExp _ _ _ _ => false
  | .Compare _ _ _ _ => false
  | _ => true
theorem plain_true {x : Expr} {env : PySem.Env} (h : plainT x = true) : ∀ whole, isTrue x env whole = (do let v ← whole; standAt x.pos; holding [v] (truthy v)) := by
  intro whole
  cases x with
  | UnaryOp o a p => cases o <;> first | rfl | cases h
  | BoolOp o a p => cases h
  | IfExp a b c p => cases h
  | Compare a b c p => cases h
  | _ => rfl
def isBool : Expr → Bool
  | .BoolOp _ _ _ => true
  | _ => false
end
end PyI
set_option Elab.async false
set_option linter.all false
set_option autoImplicit false
set_option maxRecDepth 100000
set_option maxHeartbeats 4000000
/-! The whole: every expression of the small machine that is the text's keeps what it says. -/
namespace PyI
open PySem L2
section
variable {D : Wd} {G : Gc} {P : Pg} {cf : Nat → List U → Store → R U} {j : Nat}
/-- x if z else y as a test -/
theorem pt_iff {X : Cx} {z x y : Expr} {pos : Pos} {tz ta tb : TT} (hc : PT X z tz) (ha : PT X x ta) (hb : PT X y tb) : PT X (.IfExp z x y pos) (fun σ H Q => tz σ H fun c H1 => if c = true then ta σ H1 Q else tb σ H1 Q) := ⟨fun pins s σ H Q I h => by
  show wpAny _ _ (do if ← isTrue z X.env (eval z X.env) then isTrue x X.env (eval x X.env) else isTrue y X.env (eval y X.env)) _ _ s
  refine wpAny_bind (thn (hc.run pins s σ H _ I h) fun c s1 ⟨H1, I1, q1⟩ => ?_)
  cases c with
  | true => exact ha.run pins s1 σ H1 Q I1 q1
  | false => exact hb.run pins s1 σ H1 Q I1 q1⟩
theorem it_ife {X : Cx} {W : WX} {c a b : E} {z x y : Expr} {pos : Pos} (hc : PT X z (tIt D P cf W c)) (ha : PT X x (tIt D P cf W a)) (hb : PT X y (tIt D P cf W b)) : PT X (.IfExp z x y pos) (tIt D P cf W (.ife c a b)) := by
  refine PT.imp (pt_iff hc ha hb) fun σ H Q ⟨φ, env, S, g, e, q⟩ => ?_
  unfold evt ev at q
  rw [R.bind_assoc] at q
  refine ⟨φ, env, S, g, e, ?_⟩
  have q2 : SatR D ((evt P cf c env S).bind fun k S => if k = true then evt P cf a env S else evt P cf b env S) (fun _ _ (a b : Bool) => a = b) φ H Q (fun c d H1 => W c d σ H1) := by
    unfold evt
    rw [R.bind_assoc]
    cases h1 : ev P cf c env S with
    | val u S1 =>
      rw [h1] at q
      cases hk : truU S1 u with
      | none => simp only [R.bind, hk] at q; exact q.elim
      | some k =>
        simp only [R.bind, hk] at q
        simp only [R.bind, tru, hk, ofO]
        cases k
        · simp only [Bool.false_eq_true, if_false]; exact q
        · simp only [if_true]; exact q
    | exc c d S1 => rw [h1] at q; exact q
    | stuck => rw [h1] at q; exact q
  refine q2.bind fun k S1 φ1 H1 k' _ p1 t1 g1 r1 q1 => ?_
  subst r1
  cases k with
  | true => rw [if_pos rfl]; exact ⟨φ1, env, S1, g1, e.mono p1 t1, q1⟩
  | false => rw [if_neg Bool.false_ne_true]; exact ⟨φ1, env, S1, g1, e.mono p1 t1, q1⟩
/-- an expression as a value, as a test -/
def OkE (D : Wd) (G : Gc) (P : Pg) (cf : Nat → List U → Store → R U) (j : Nat) (e : E) : Prop := ∀ (C : Cfg) (W : WX) (X : Cx) (x : Expr), CxOk D G P cf j C W X → mE G C e x = true → PE X x (tI D P cf W e) ∧ PT X x (tIt D P cf W e) ∧ (isBool x = true → PW X x (tIt D P cf W e))
theorem of_val {e : E} (C : Cfg) (W : WX) (X : Cx) (x : Expr) (ok : CxOk D G P cf j C W X) (hp : plainT x = true) (h : PE X x (tI D P cf W e)) : PE X x (tI D P cf W e) ∧ PT X x (tIt D P cf W e) ∧ (isBool x = true → PW X x (tIt D P cf W e)) :=
  ⟨h, it_val ok.K h (plain_true hp), fun z => by cases x <;> first | (cases z; done) | (cases hp; done)⟩
mutual
theorem okE : ∀ e : E, OkE D G P cf j e
  | .var i => fun C W X x ok h => by
    unfold mE at h
    cases x <;> first | (cases h; done) | skip
    exact of_val C W X _ ok rfl (ie_var ok h)
  | .int i => fun C W X x ok h => by
    unfold mE at h
    split at h
    · have e := of_decide_eq_true h
      subst e
      exact of_val C W X _ ok rfl ie_int
    · cases h
  | .str i => fun C W X x ok h => by
    unfold mE at h
    split at h
    · have e := of_decide_eq_true h
      subst e
      exact of_val C W X _ ok rfl ie_str
    · cases h
  | .bl i => fun C W X x ok h => by
    unfold mE at h
    split at h
    · have e := of_decide_eq_true h
      subst e
      exact of_val C W X _ ok rfl ie_bl
    · cases h
  | .non => fun C W X x ok h => by
    unfold mE at h
    split at h
    · exact of_val C W X _ ok rfl ie_non
    · cases h
  | .glo i => fun C W X x ok h => by
    unfold mE at h
    split at h
    · obtain ⟨h1, h2⟩ := b2 h
      exact of_val C W X _ ok rfl (ie_glo ok (of_decide_eq_true h1) h2)
    · cases h
  | .fnv i => fun C W X x ok h => by
    unfold mE at h
    split at h
    · obtain ⟨h1, h2⟩ := b2 h
      exact of_val C W X _ ok rfl (ie_fnv ok (of_decide_eq_true h1) h2)
    · cases h
  | .bin o a b => fun C W X x ok h => by
    unfold mE at h
    split at h
    · obtain ⟨h1, h2⟩ := b2 h
      obtain ⟨h2, h3⟩ := b2 h2
      obtain ⟨r, ho, hr⟩ := op_rule (X := X) (D := D) ok.K h1
      exact of_val C W X _ ok rfl (ie_op ho hr (okE a C W X _ ok h2).1 (okE b C W X _ ok h3).1)
    · cases h
  | .neg a => fun C W X x ok h => by
    unfold mE at h
    split at h
    · exact of_val C W X _ ok rfl (ie_neg (okE a C W X _ ok h).1)
    · cases h
  | .cmp o a b => fun C W X x ok h => by
    unfold mE at h
    split at h
    · obtain ⟨h1, h2⟩ := b2 h
      obtain ⟨h1, h4⟩ := b2 h1
      obtain ⟨h1, h5⟩ := b2 h1
      obtain ⟨h2, h3⟩ := b2 h2
      obtain ⟨r, ho, hr⟩ := cm_rule (X := X) (D := D) ok.K (ok.units h1) h5
      exact ⟨ie_cmp ho hr (okE a C W X _ ok h2).1 (okE b C W X _ ok h3).1 (nb h4), it_cmp ho hr (okE a C W X _ ok h2).1 (okE b C W X _ ok h3).1 (nb h4), fun z => by cases z⟩
    · cases h
  | .cmp2 o p a b c => fun C W X x ok h => by
    unfold mE at h
    split at h
    · obtain ⟨h1, h2⟩ := b2 h
      obtain ⟨h1, h4⟩ := b2 h1
      obtain ⟨h1, h5⟩ := b2 h1
      obtain ⟨h1, h6⟩ := b2 h1
      obtain ⟨h2, h3⟩ := b2 h2
      obtain ⟨h2, h7⟩ := b2 h2
      obtain ⟨r, ho, hr⟩ := cm_rule (X := X) (D := D) ok.K (ok.units h1) h6
      obtain ⟨r', ho', hr'⟩ := cm_rule (X := X) (D := D) ok.K (ok.units h1) h5
      exact ⟨ie_cmp2 ho hr ho' hr' (okE a C W X _ ok h2).1 (okE b C W X _ ok h7).1 (okE c C W X _ ok h3).1 (nb h4), it_cmp2 ho hr ho' hr' (okE a C W X _ ok h2).1 (okE b C W X _ ok h7).1 (okE c C W X _ ok h3).1 (nb h4), fun z => by cases z⟩
    · cases h
  | .and a b => fun C W X x ok h => by
    unfold mE at h
    split at h
    · rename_i x y r pos
      obtain ⟨h1, h2⟩ := b2 h
      have ha := okE a C W X x ok h1
      cases r with
      | nil =>
        have hb := okE b C W X y ok h2
        have t := it_and (b := b) (pos := pos) ha.2.1 (pw_and1 hb.2.1)
        exact ⟨ie_and ok.K ha.1 (pe_one hb.1), t.pt, fun _ => t⟩
      | cons z r =>
        have hb := okE b C W X _ ok h2
        have t := it_and (b := b) (pos := pos) ha.2.1 (hb.2.2 rfl)
        exact ⟨ie_and ok.K ha.1 hb.1, t.pt, fun _ => t⟩
    · cases h
  | .or a b => fun C W X x ok h => by
    unfold mE at h
    split at h
    · rename_i x y r pos
      obtain ⟨h1, h2⟩ := b2 h
      have ha := okE a C W X x ok h1
      cases r with
      | nil =>
        have hb := okE b C W X y ok h2
        have t := it_or (b := b) (pos := pos) ha.2.1 (pw_or1 hb.2.1)
        exact ⟨ie_or ok.K ha.1 (pe_one hb.1), t.pt, fun _ => t⟩
      | cons z r =>
        have hb := okE b C W X _ ok h2
        have t := it_or (b := b) (pos := pos) ha.2.1 (hb.2.2 rfl)
        exact ⟨ie_or ok.K ha.1 hb.1, t.pt, fun _ => t⟩
    · cases h
  | .not a => fun C W X x ok h => by
    unfold mE at h
    split at h
    · have ha := okE a C W X _ ok h
      exact ⟨ie_not ok.K ha.1, it_not ha.2.1, fun z => by cases z⟩
    · cases h
  | .ife c a b => fun C W X x ok h => by
    unfold mE at h
    split at h
    · obtain ⟨h1, h2⟩ := b2 h
      obtain ⟨h2, h3⟩ := b2 h2
      have r := ie_ife (pos := by assumption) (okE c C W X _ ok h1).2.1 (okE a C W X _ ok h2).1 (okE b C W X _ ok h3).1
      exact ⟨r, it_ife (okE c C W X _ ok h1).2.1 (okE a C W X _ ok h2).2.1 (okE b C W X _ ok h3).2.1, fun z => by cases z⟩
    · cases h
  | .tup es => fun C W X x ok h => by
    unfold mE at h
    split at h
    · exact of_val C W X _ ok rfl (ie_tup (okEs es C W X _ ok h).1)
    · cases h
  | .lst es => fun C W X x ok h => by
    unfold mE at h
    split at h
    · exact of_val C W X _ ok rfl (ie_lst (okEs es C W X _ ok h).1)
    · cases h
  | .ix a b => fun C W X x ok h => by
    unfold mE at h
    split at h
    · obtain ⟨h1, h2⟩ := b2 h
      obtain ⟨h2, h3⟩ := b2 h2
      exact of_val C W X _ ok rfl (ie_ix ok.K (okE a C W X _ ok h2).1 (okE b C W X _ ok h3).1 (nb h1))
    · cases h
  | .cut a lo hi => fun C W X x ok h => by
    unfold mE at h
    split at h
    · obtain ⟨h1, h2⟩ := b2 h
      obtain ⟨h2, h3⟩ := b2 h2
      exact of_val C W X _ ok rfl (ie_cut ok.K (okE a C W X _ ok h1).1 (okEo lo C W X _ ok h2) (okEo hi C W X _ ok h3))
    · cases h
  | .fld a f => fun C W X x ok h => by unfold mE at h; cases h
  | .call f es => fun C W X x ok h => by
    unfold mE at h
    split at h
    · obtain ⟨h1, h2⟩ := b2 h
      obtain ⟨h1, h3⟩ := b2 h1
      obtain ⟨h1, h4⟩ := b2 h1
      obtain ⟨h1, h5⟩ := b2 h1
      exact of_val C W X _ ok rfl (ie_call ok h1 (of_decide_eq_true h5) h4 h3 (okEs es C W X _ ok h2).1)
    · cases h
  | .callv x es => fun C W X x ok h => by unfold mE at h; cases h
  | .meth m o es => fun C W X x ok h => by unfold mE at h; cases h
  | .mk c es => fun C W X x ok h => by unfold mE at h; cases h
  | .bi b es => fun C W X x ok h => by
    unfold mE at h
    split at h
    · split at h
      · obtain ⟨h1, h2⟩ := b2 h
        obtain ⟨h1, s1⟩ := b2 h1
        obtain ⟨h1, s2⟩ := b2 h1
        obtain ⟨h1, s2x⟩ := b2 h1
        obtain ⟨h1, s3⟩ := b2 h1
        obtain ⟨h1, s4⟩ := b2 h1
        obtain ⟨h1, s5⟩ := b2 h1
        obtain ⟨h1, s6⟩ := b2 h1
        exact of_val C W X _ ok rfl (ie_isi ok (of_decide_eq_true s6) s5 (of_decide_eq_true s4) s3 (of_decide_eq_true s2x) (of_decide_eq_true s2) (nb s1) (okE _ C W X _ ok h2).1)
      · split at h
        · obtain ⟨h1, h2⟩ := b2 h
          obtain ⟨h1, s1⟩ := b2 h1
          obtain ⟨h1, s2⟩ := b2 h1
          obtain ⟨h1, s3⟩ := b2 h1
          obtain ⟨hc, s4⟩ := b2 h1
          have e := of_decide_eq_true s4
          subst e
          exact of_val C W X _ ok rfl (ie_bi ok hc (by assumption) s3 (of_decide_eq_true s2) s1 (okEs _ C W X _ ok h2).1)
        · cases h
      · cases h
    · cases h
  | .bm b o es => fun C W X x ok h => by
    unfold mE at h
    split at h
    · obtain ⟨h1, h2⟩ := b2 h
      obtain ⟨h1, h3⟩ := b2 h1
      obtain ⟨h1, h4⟩ := b2 h1
      obtain ⟨h2o, h5⟩ := b2 h2
      split at h5
      · obtain ⟨h6, h7⟩ := b2 h5
        exact of_val C W X _ ok rfl (ie_bm1 ok.K (of_decide_eq_true h1) (nb h4) h3 (nb h6) (okE o C W X _ ok h2o).1 (okEs es C W X _ ok h7).1)
      · obtain ⟨h6, h7⟩ := b2 h5
        obtain ⟨h6, h8⟩ := b2 h6
        exact of_val C W X _ ok rfl (ie_bm2 ok.K (of_decide_eq_true h1) (nb h4) h3 (nb h6) (nb h8) (okE o C W X _ ok h2o).1 (okEs es C W X _ ok h7).1)
      · split at h5
        · exact of_val C W X _ ok rfl (ie_bm0 ok.K (of_decide_eq_true h1) (nb h4) h3 (okE o C W X _ ok h2o).1)
        · cases h5
      · cases h5
    · cases h
  | .comp own t it c e => fun C W X x ok h => by
    unfold mE at h
    split at h
    · rename_i elt tg iter ifs as scope pos
      obtain ⟨h1, h2⟩ := b2 h
      obtain ⟨h1, s1⟩ := b2 h1
      obtain ⟨h1, s2⟩ := b2 h1
      obtain ⟨h1, s3⟩ := b2 h1
      obtain ⟨h1, s4⟩ := b2 h1
      obtain ⟨hc, s5⟩ := b2 h1
      obtain ⟨h2, h3⟩ := b2 h2
      obtain ⟨h2i, h4⟩ := b2 h2
      have e0 := of_decide_eq_true s5
      subst e0
      have hb : BlkOk X.N X.env.scope scope (ownOf C own) := by rw [ok.N, ok.sc]; exact blkOk_by s3
      have ht : ∀ i ∈ tgs t, i ∈ (ownOf C own).map (·.2) := fun i hi => by
        rw [own_snd]
        have := List.all_eq_true.mp s1 i hi
        simpa using this
      refine of_val C W X _ ok rfl (PE.imp (pe_lc (g := gOf X.K t) (ok.calm hc) (by rw [ok.N]; exact ok.nd) (okI it C W X _ _ ok h2i) hb (fun s H Cc cl fp => mT_ok (ok.blkd s H scope cl Cc fp) s2)
        (fun s H Cc cl fp => okEc c (C.blkd scope) WF _ _ (ok.blkd s H scope cl Cc fp) h4) (fun s H Cc cl fp => (okE e (C.blkd scope) WF _ _ (ok.blkd s H scope cl Cc fp) h3).1) (fold_set (nb s4))) fun σ H Q q => ?_)
      refine comp_run ok.K ht ?_
      rw [own_snd]
      exact q
    · cases h
  | .comp2 own t it c own1 t1 it1 c1 e => fun C W X x ok h => by
    unfold mE at h
    split at h
    · rename_i elt tg iter ifs as tg1 iter1 ifs1 as1 scope pos
      obtain ⟨h1, h2⟩ := b2 h
      obtain ⟨h1, s1⟩ := b2 h1
      obtain ⟨h1, s2⟩ := b2 h1
      obtain ⟨h1, s3⟩ := b2 h1
      obtain ⟨h1, s4⟩ := b2 h1
      obtain ⟨h1, s5⟩ := b2 h1
      obtain ⟨h1, s6⟩ := b2 h1
      obtain ⟨h1, s7⟩ := b2 h1
      obtain ⟨h1, s8⟩ := b2 h1
      obtain ⟨h1, s9⟩ := b2 h1
      obtain ⟨hc, s10⟩ := b2 h1
      obtain ⟨h2, h3⟩ := b2 h2
      obtain ⟨h2i, h4⟩ := b2 h2
      obtain ⟨h3, h5⟩ := b2 h3
      obtain ⟨h3, h6⟩ := b2 h3
      have e0 := of_decide_eq_true s10
      have e1 := of_decide_eq_true s9
      subst e0
      subst e1
      have hb : BlkOk X.N X.env.scope scope (ownOf C own) := by rw [ok.N, ok.sc]; exact blkOk_by s6
      have sub : ∀ {a b : List Nat}, (a.all fun i => b.contains i) = true → ∀ i ∈ a, i ∈ b := fun {a b} h i hi => by
        have := List.all_eq_true.mp h i hi
        simpa using this
      have ht : ∀ i ∈ tgs t, i ∈ (ownOf C own).map (·.2) := by rw [own_snd]; exact sub s3
      have hv : ∀ i ∈ own1, i ∈ (ownOf C own).map (·.2) := by rw [own_snd]; exact sub s1
      refine of_val C W X _ ok rfl (PE.imp (pe_lc2 (g := gOf X.K t) (g1 := gOf X.K t1) (ok.calm hc) (by rw [ok.N]; exact ok.nd) (okI it C W X _ _ ok h2i) hb hv (fun s H Cc cl fp => mT_ok (ok.blkd s H scope cl Cc fp) s5)
        (fun s H Cc cl fp => okEc c (C.blkd scope) WF _ _ (ok.blkd s H scope cl Cc fp) h4) (fun s H Cc cl fp => okI it1 (C.blkd scope) WF _ _ _ (ok.blkd s H scope cl Cc fp) h3) (fun s H Cc cl fp => mT_ok (ok.blkd s H scope cl Cc fp) s4) (fun s H Cc cl fp => okEc c1 (C.blkd scope) WF _ _ (ok.blkd s H scope cl Cc fp) h6)
        (fun s H Cc cl fp => (okE e (C.blkd scope) WF _ _ (ok.blkd s H scope cl Cc fp) h5).1) (fold_set (nb s8)) (fun env => fold_set (env := env) (nb s7))) fun σ H Q q => ?_)
      refine comp2_run ok.K ht (sub s2) ?_
      rw [own_snd]
      exact q
    · cases h
  | .dict0 => fun C W X x ok h => by unfold mE at h; cases h
theorem okEs : ∀ (es : Es) (C : Cfg) (W : WX) (X : Cx) (xs : List Expr), CxOk D G P cf j C W X → mEs G C es xs = true → PA X xs (tIs D P cf W es) ∧ True
  | .nil => fun C W X xs ok h => by
    unfold mEs at h
    cases xs with
    | nil => exact ⟨ia_nil, trivial⟩
    | cons x xs => cases h
  | .cons e r => fun C W X xs ok h => by
    unfold mEs at h
    split at h
    · obtain ⟨h1, h2⟩ := b2 h
      obtain ⟨h2, h3⟩ := b2 h2
      exact ⟨ia_cons (okE e C W X _ ok h2).1 (okEs r C W X _ ok h3).1 (nb h1), trivial⟩
    · cases h
theorem okEo : ∀ (e : Eo) (C : Cfg) (W : WX) (X : Cx) (x : Option Expr), CxOk D G P cf j C W X → mEo G C e x = true → PO X x (tIo D P cf W e)
  | .none => fun C W X x ok h => by
    unfold mEo at h
    cases x with
    | none => exact io_none
    | some x => cases h
  | .some e => fun C W X x ok h => by
    unfold mEo at h
    split at h
    · exact io_some (okE e C W X _ ok h).1
    · cases h
theorem okEc : ∀ (e : Eo) (C : Cfg) (W : WX) (X : Cx) (x : List Expr), CxOk D G P cf j C W X → mEc G C e x = true → PTs X x (tIc D P cf W e)
  | .none => fun C W X x ok h => by
    unfold mEc at h
    cases x with
    | nil => exact ic_none
    | cons x xs => cases h
  | .some e => fun C W X x ok h => by
    unfold mEc at h
    split at h
    · exact ic_some (okE e C W X _ ok h).2.1
    · cases h
theorem okI : ∀ (it : It) (C : Cfg) (W : WX) (X : Cx) (tg x : Expr), CxOk D G P cf j C W X → mI G C it tg x = true → PI X tg x (tIq D P cf W it)
  | .seq e => fun C W X tg x ok h => by
    unfold mI at h
    exact ii_seq ok.K (okE e C W X _ ok h).1
  | .chars e => fun C W X tg x ok h => by
    unfold mI at h
    exact ii_chars (okE e C W X _ ok h).1
  | .rng1 e => fun C W X tg x ok h => by
    unfold mI at h
    split at h
    · obtain ⟨h1, h2⟩ := b2 h
      obtain ⟨h1, s1⟩ := b2 h1
      obtain ⟨h1, s2⟩ := b2 h1
      obtain ⟨h1, s3⟩ := b2 h1
      have e0 := of_decide_eq_true h1
      subst e0
      exact ii_rng1 ok (okE e C W X _ ok h2).1 s3 (of_decide_eq_true s2) (nb s1)
    · cases h
  | .rng2 a b => fun C W X tg x ok h => by
    unfold mI at h
    split at h
    · obtain ⟨h1, h2⟩ := b2 h
      obtain ⟨h1, s0⟩ := b2 h1
      obtain ⟨h1, s1⟩ := b2 h1
      obtain ⟨h1, s2⟩ := b2 h1
      obtain ⟨h1, s3⟩ := b2 h1
      obtain ⟨h2, h3⟩ := b2 h2
      have e0 := of_decide_eq_true h1
      subst e0
      exact ii_rng2 ok (okE a C W X _ ok h2).1 (okE b C W X _ ok h3).1 s3 (of_decide_eq_true s2) (nb s1) (nb s0)
    · cases h
  | .rev e => fun C W X tg x ok h => by
    unfold mI at h
    split at h
    · obtain ⟨h1, h2⟩ := b2 h
      obtain ⟨h1, s1⟩ := b2 h1
      obtain ⟨h1, s2⟩ := b2 h1
      obtain ⟨h1, s3⟩ := b2 h1
      have e0 := of_decide_eq_true h1
      subst e0
      exact ii_rev ok (okE e C W X _ ok h2).1 s3 (of_decide_eq_true s2) (nb s1)
    · cases h
  | .enum e => fun C W X tg x ok h => by
    unfold mI at h
    split at h
    · obtain ⟨h1, h2⟩ := b2 h
      obtain ⟨h1, s1⟩ := b2 h1
      obtain ⟨h1, s2⟩ := b2 h1
      obtain ⟨h1, s3⟩ := b2 h1
      obtain ⟨h1, s4⟩ := b2 h1
      have e0 := of_decide_eq_true s4
      subst e0
      cases tg <;> first | (cases h1; done) | skip
      exact ii_enum ok (okE e C W X _ ok h2).1 s3 (of_decide_eq_true s2) (nb s1)
    · cases h
  | .zip a b => fun C W X tg x ok h => by
    unfold mI at h
    split at h
    · obtain ⟨h1, h2⟩ := b2 h
      obtain ⟨h1, s0⟩ := b2 h1
      obtain ⟨h1, s1⟩ := b2 h1
      obtain ⟨h1, s2⟩ := b2 h1
      obtain ⟨h1, s3⟩ := b2 h1
      obtain ⟨h1, s4⟩ := b2 h1
      obtain ⟨h2, h3⟩ := b2 h2
      have e0 := of_decide_eq_true s4
      subst e0
      cases tg <;> first | (cases h1; done) | skip
      exact ii_zip ok (okE a C W X _ ok h2).1 (okE b C W X _ ok h3).1 s3 (of_decide_eq_true s2) (nb s1) (nb s0)
    · cases h
end
end
end PyI
set_option Elab.async false
set_option linter.all false
set_option autoImplicit false
set_option maxRecDepth 100000
set_option maxHeartbeats 4000000
/-! Statements of the text, defs, the law. -/
namespace PyI
open PySem L2
section
variable {D : Wd} {G : Gc} {P : Pg} {cf : Nat → List U → Store → R U} {j n : Nat} {C : Cfg} {W : WX} {X : Cx}
theorem seti_ok {φ : List Addr} {H : Hp} {S S1 : Store} {x i u : U} {vx vi vu : V} (g : Sim D φ S H) (r : RelU D φ H x vx) (ri : RelU D φ H i vi) (ru : RelU D φ H u vu) (h : setiU x i u S = some S1) {Q : Hp → Prop}
    (q : ∀ H1, Tm D H H1 → Sim D φ S1 H1 → Q H1) : rSetL vx vi vu H Q := by
  unfold setiU at h
  split at h
  · rename_i l
    split at h
    · rename_i us e
      split at h
      · rename_i k
        cases r with
        | ref f =>
          rename_i a
          cases ri
          obtain ⟨vs, h1, r1⟩ := g.cell _ _ a e f
          have fin : ∀ jx : Nat, ixN us.length k = some jx → some (S.set l (.lst (us.set jx u))) = some S1 → rSetL (.ref a) (.int k) vu H Q := fun jx hj h => by
            cases h
            refine ⟨a, vs, k, jx, rfl, rfl, h1, by rw [← r1.len]; exact hj, ?_⟩
            exact q _ (Tm.set h1 rfl) (g.set e f rfl rfl fun tm => ⟨_, upd_same, (r1.mono (List.prefix_refl _) tm).set (ru.mono (List.prefix_refl _) tm) jx⟩)
          split at h
          · split at h
            · exact fin k.toNat (by unfold ixN; rw [if_pos (by assumption), if_pos (by assumption)]) h
            · cases h
          · split at h
            · exact fin _ (by unfold ixN; rw [if_neg (by assumption), if_pos (by assumption)]) h
            · cases h
      · cases h
    · cases h
  · cases h
theorem is_seti {o i a : E} {xo xi x : Expr} {p pos : Pos} (ho : PE X xo (tI D P cf W o)) (hi : PE X xi (tI D P cf W i)) (ha : PE X x (tI D P cf W a)) (hx : isComp x = false) (hxi : sliceB xi = false) (hsl : swappedStores [.Subscript xo xi p] x X.env = pure none) : PS X (.Assign [.Subscript xo xi p] x pos) (tS D P cf n W (.seti o i a)) := by
  refine PS.imp (ps_asg ha (pg_sub ho hi set_list (fun v => by cases xi <;> first | rfl | cases hxi)) (by unfold swapsWithSole; exact no_swap hx) hsl rfl) fun E σ H ⟨φ, env, S, g, e, q⟩ => ?_
  unfold ex at q
  refine ⟨φ, env, S, g, e, SatO.bind e q fun u S1 φ1 H1 v _ p1 t1 g1 r1 q1 => ?_⟩
  refine ⟨φ1, env, S1, g1, e.mono p1 t1, SatO.bind (e.mono p1 t1) q1 fun w S2 φ2 H2 v2 _ p2 t2 g2 r2 q2 => ?_⟩
  refine ⟨φ2, env, S2, g2, e.mono (p1.trans p2) (t1.trans t2), SatO.bind (e.mono (p1.trans p2) (t1.trans t2)) q2 fun k S3 φ3 H3 v3 _ p3 t3 g3 r3 q3 => ?_⟩
  cases hS : setiU w k u S3 with
  | none => rw [hS] at q3; exact q3.elim
  | some S4 =>
    rw [hS] at q3
    exact seti_ok g3 (r2.mono p3 t3) r3 (r1.mono (p2.trans p3) (t2.trans t3)) hS fun H4 t4 g4 => q3 φ3 H4 σ (List.prefix_refl _) t4 g4 (e.mono (p1.trans (p2.trans p3)) (t1.trans (t2.trans (t3.trans t4))))
/-- y = [..] -/
theorem is_setC {i : Nat} {own : List Nat} {t : Tg} {it : It} {c : Eo} {e0 : E} {y : PySem.Str} {elt tg iter : Expr} {ifs : List Expr} {scope : Scope} {pos py spos : Pos} (ok : CxOk D G P cf j C W X) (hl : locB C i y = true) (hyl : C.sc.names.lookup y = some .local)
    (hsw : swapsWith (.ListComp elt [⟨tg, iter, ifs, 0⟩] scope pos) (some (.Name y py)) spos.line X.env = pure true)
    (rule : ∀ (tq : TI) (tt : TT) (te : TE), PI X tg iter tq → (∀ (s : Shared) (H : Hp) (Cc : Addr) (cl : List (PySem.Str × Addr)) (fp : List Addr), PTs (X.blk s H scope (compEnvC scope cl Cc X.env) fp) ifs tt) → (∀ (s : Shared) (H : Hp) (Cc : Addr) (cl : List (PySem.Str × Addr)) (fp : List Addr), PE (X.blk s H scope (compEnvC scope cl Cc X.env) fp) elt te) →
      PS X (.Assign [.Name y py] (.ListComp elt [⟨tg, iter, ifs, 0⟩] scope pos) spos) (tAsg (tLc tq (gOf X.K t) tt te ((ownOf C own).map (·.2))) (gName i)))
    (ht : ∀ i ∈ tgs t, i ∈ own) (hi : PI X tg iter (tIq D P cf W it)) (hc : ∀ (s : Shared) (H : Hp) (Cc : Addr) (cl : List (PySem.Str × Addr)) (fp : List Addr), PTs (X.blk s H scope (compEnvC scope cl Cc X.env) fp) ifs (tIc D P cf WF c)) (he : ∀ (s : Shared) (H : Hp) (Cc : Addr) (cl : List (PySem.Str × Addr)) (fp : List Addr), PE (X.blk s H scope (compEnvC scope cl Cc X.env) fp) elt (tI D P cf WF e0)) :
    PS X (.Assign [.Name y py] (.ListComp elt [⟨tg, iter, ifs, 0⟩] scope pos) spos) (tS D P cf n W (.asg (.nm i) (.comp own t it c e0))) := by
  refine PS.imp (rule _ _ _ hi hc he) fun E σ H ⟨φ, env, S, g, e, q⟩ => ?_
  unfold ex at q
  refine comp_run (W := W) ok.K (by rw [own_snd]; exact ht) ?_
  rw [own_snd]
  refine ⟨φ, env, S, g, e, SatO.bind e q fun u S1 φ1 H1 v _ p1 t1 g1 r1 q1 => ?_⟩
  exact q1 φ1 H1 _ (List.prefix_refl _) (Tm.refl _ _) g1 ((e.mono p1 t1).set r1 i)
theorem sw_false {x : Expr} {y : PySem.Str} {py : Pos} {l : Nat} {env : PySem.Env} (h : (py.line == x.pos.line) = false) : swapsWith x (some (.Name y py)) l env = pure false := by
  cases x with
  | ListComp elt gs sc pos =>
    unfold swapsWith
    dsimp only
    rw [h]
    cases (env.blockKind == ScopeKind.function) <;> cases (env.kindOf y == some NameKind.local) <;> rfl
  | SetComp elt gs sc pos =>
    unfold swapsWith
    dsimp only
    rw [h]
    cases (env.blockKind == ScopeKind.function) <;> cases (env.kindOf y == some NameKind.local) <;> rfl
  | DictComp k elt gs sc pos =>
    unfold swapsWith
    dsimp only
    rw [h]
    cases (env.blockKind == ScopeKind.function) <;> cases (env.kindOf y == some NameKind.local) <;> rfl
  | _ => rfl
theorem is_setL {i : Nat} {a : E} {y : PySem.Str} {x : Expr} {py pos : Pos} (ok : CxOk D G P cf j C W X) (ha : PE X x (tI D P cf W a)) (hl : locB C i y = true) (hx : (py.line == x.pos.line) = false) : PS X (.Assign [.Name y py] x pos) (tS D P cf n W (.asg (.nm i) a)) := by
  obtain ⟨h1, h2, h3⟩ := loc_of ok hl
  refine PS.imp (ps_set (by rw [ok.N]; exact ok.nd) h1 h2 ha (sw_false hx) h3) fun E σ H ⟨φ, env, S, g, e, q⟩ => ?_
  unfold ex at q
  refine ⟨φ, env, S, g, e, SatO.bind e q fun u S1 φ1 H1 v _ p1 t1 g1 r1 q1 => ?_⟩
  exact q1 φ1 H1 _ (List.prefix_refl _) (Tm.refl _ _) g1 ((e.mono p1 t1).set r1 i)
end
def tupX : Expr → Bool
  | .Tuple _ _ _ => true
  | _ => false
theorem no_swapS {t x : Expr} {env : PySem.Env} (h : tupX x = false) : swappedStores [t] x env = pure none := by
  cases x <;> first | (cases h; done) | (cases t <;> rfl)
theorem no_swapN {o i x : Expr} {p : Pos} {env : PySem.Env} : swappedStores [.Subscript o i p] x env = pure none := by
  cases x <;> rfl
theorem swap_two {y1 y2 : PySem.Str} {px py pt pt2 : Pos} {kt k2 : Nat} {x1 x2 : Expr} {env : PySem.Env} (hk : env.blockKind = .function) (h1 : env.kindOf y1 = some .local) (h2 : env.kindOf y2 = some .local) (hl : (py.line == px.line) = true) (hne : (y2 == y1) = false) (s1 : starB x1 = false) (s2 : starB x2 = false) :
    swappedStores [.Tuple [.Name y1 px, .Name y2 py] kt pt] (.Tuple [x1, x2] k2 pt2) env = if foldedForSure 8 x1 = true ∧ foldedForSure 8 x2 = true then pure none else if constantsAlone 8 x1 = true ∧ constantsAlone 8 x2 = true then (fun a => some [y1, y2]) <$> (unsupported "assign.tuple-of-constant-expressions:order-of-the-stores" : Sem Unit) else pure (some [y1, y2]) := by
  have hl2 : py.line = px.line := by simpa using hl
  unfold swappedStores
  simp only [hk]
  simp [h1, h2, hl2, Expr.pos, List.eraseDups, List.eraseDupsBy, List.eraseDupsBy.loop, hne]
  intro hA
  rcases hA with hA | hA
  · exact absurd (show starB x1 = true from hA) (by rw [s1]; decide)
  · exact absurd (show starB x2 = true from hA) (by rw [s2]; decide)
theorem par_swap {y1 y2 : PySem.Str} {px py pt pt2 : Pos} {kt k2 : Nat} {x1 x2 : Expr} {env : PySem.Env} (hk : env.blockKind = .function) (h1 : env.kindOf y1 = some .local) (h2 : env.kindOf y2 = some .local) (hl : (py.line == px.line) = true) (hne : (y2 == y1) = false) (s1 : starB x1 = false) (s2 : starB x2 = false)
    (f1 : (foldedForSure 8 x1 && foldedForSure 8 x2) = false) (f2 : (constantsAlone 8 x1 && constantsAlone 8 x2) = false) : swappedStores [.Tuple [.Name y1 px, .Name y2 py] kt pt] (.Tuple [x1, x2] k2 pt2) env = pure (some [y1, y2]) := by
  rw [swap_two hk h1 h2 hl hne s1 s2, if_neg, if_neg]
  · intro z; rw [z.1, z.2] at f2; cases f2
  · intro z; rw [z.1, z.2] at f1; cases f1
theorem fold_swap {y1 y2 : PySem.Str} {px py pt pt2 : Pos} {kt k2 : Nat} {x1 x2 : Expr} {env : PySem.Env} (hk : env.blockKind = .function) (h1 : env.kindOf y1 = some .local) (h2 : env.kindOf y2 = some .local) (hl : (py.line == px.line) = true) (hne : (y2 == y1) = false) (s1 : starB x1 = false) (s2 : starB x2 = false)
    (f1 : (foldedForSure 8 x1 && foldedForSure 8 x2) = true) : swappedStores [.Tuple [.Name y1 px, .Name y2 py] kt pt] (.Tuple [x1, x2] k2 pt2) env = pure none := by
  rw [swap_two hk h1 h2 hl hne s1 s2, if_pos (Bool.and_eq_true_iff.mp f1)]
section
variable (G : Gc)
def setcB (C : Cfg) (y : PySem.Str) (py : Pos) (scope : Scope) (pos : Pos) : Bool := decide (C.sc.names.lookup y = some .local) && (py.line == pos.line) && !(scope.names.any fun (n, k) => n == y && (k == .local || k == .cell))
mutual
def mS (C : Cfg) : St → Stmt → Bool
  | .asg t e, s => match s with
    | .Assign [tg] x pos => (match t, tg with
      | .nm i, .Name y py => locB C i y && (match e, x with
        | .comp own t it c e0, .ListComp elt [⟨tg, iter, ifs, as⟩] scope pos => if (py.line == pos.line) = true then
            (setcB C y py scope pos && C.calm && decide (as = 0) && !setB iter && blkC C.N C.sc scope (ownOf C own) && mT (C.blkd scope) t tg && (tgs t).all (fun i => own.contains i)) && (mI G C it tg iter && mEc G (C.blkd scope) c ifs && mE G (C.blkd scope) e0 elt)
          else mE G C (.comp own t it c e0) (.ListComp elt [⟨tg, iter, ifs, as⟩] scope pos)
        | e, x => !isComp x && mE G C e x)
      | .tp [i, k], .Tuple [.Name y1 px, .Name y2 py] _ _ => (match e, x with
        | .tup (.cons a (.cons b .nil)), .Tuple [x1, x2] _ _ => (C.calm && locB C i y1 && locB C k y2 && decide (C.sc.names.lookup y1 = some .local) && decide (C.sc.names.lookup y2 = some .local) && (py.line == px.line) && !(y2 == y1) && !starB x1 && !starB x2 && decide (i ≠ k)) && ((foldedForSure 8 x1 && foldedForSure 8 x2) || !(constantsAlone 8 x1 && constantsAlone 8 x2)) && (mE G C a x1 && mE G C b x2)
        | e, x => (!isComp x && !tupX x && mT C (.tp [i, k]) tg) && mE G C e x)
      | .tp ts, tg => (!isComp x && !tupX x && isTup tg && mT C (.tp ts) tg) && mE G C e x
      | _, _ => false)
    | _ => false
  | .setf o f e, _ => false
  | .seti o i e, s => match s with
    | .Assign [.Subscript xo xi p] x pos => (!isComp x && !sliceB xi) && (mE G C o xo && mE G C i xi && mE G C e x)
    | _ => false
  | .aug i o e, s => match s with
    | .AugAssign (.Name y py) op x pos => (locB C i y && (match o, op with
      | .add, .Add => true
      | .sub, .Sub => true
      | _, _ => false)) && mE G C e x
    | _ => false
  | .augf o f p e, _ => false
  | .exp e, s => match s with
    | .Expr x pos => !isComp x && mE G C e x
    | _ => false
  | .ret e, s => match s with
    | .Return (some x) pos => mE G C e x
    | _ => false
  | .retN, s => match s with
    | .Return none pos => true
    | _ => false
  | .ifS c a b, s => match s with
    | .If x as bs pos => mE G C c x && (mSs C a as && mSs C b bs)
    | _ => false
  | .whl c b, s => match s with
    | .While x bs [] pos => mE G C c x && mSs C b bs
    | _ => false
  | .for_ t it b, s => match s with
    | .For tg iter bs [] pos => (C.calm && mT C t tg && !setB iter) && (mI G C it tg iter && mSs C b bs)
    | _ => false
  | .brk, s => match s with
    | .Break _ => true
    | _ => false
  | .cnt, s => match s with
    | .Continue _ => true
    | _ => false
  | .pass, s => match s with
    | .Pass _ => true
    | _ => false
  | .raise c es, s => match es, s with
    | .nil, .Raise (some (.Call (.Name x _) [.Constant (.str _) _ _] [] _)) none _ => C.calm && decide (G.cnm[c]? = some x) && (G.exs.lookup c).isSome && gloB C x
    | _, _ => false
  | .tryM b hs, s => match s with
    | .Try body (h₀ :: hds) [] [] _ => (C.top && hsIn G hs) && (mSs C b body && mHs C hs (h₀ :: hds))
    | _ => false
  | .tryAs b c i h, _ => false
  | .del o i, _ => false
def mSs (C : Cfg) : Sts → List Stmt → Bool
  | .nil, xs => xs.isEmpty
  | .cons s r, xs => match xs with
    | x :: xs => mS C s x && mSs C r xs
    | [] => false
def mHs (C : Cfg) : Hs → List ExceptHandler → Bool
  | .nil, xs => xs.isEmpty
  | .cons c h r, xs => match xs with
    | .ExceptHandler (some (.Name x _)) none (b₀ :: suite) _ :: xs => (decide (G.cnm[c]? = some x) && gloB C x) && (mSs C.hot h (b₀ :: suite) && mHs C r xs)
    | _ => false
end
end
section
variable {D : Wd} {G : Gc} {P : Pg} {cf : Nat → List U → Store → R U} {j n : Nat}
theorem kind_fn {X : Cx} (h : X.env.scope.kind = .function) : X.env.blockKind = .function := by
  unfold Env.blockKind
  rw [h]
  rfl
mutual
theorem okS : ∀ (s : St) (C : Cfg) (W : WX) (X : Cx) (x : Stmt), CxOk D G P cf j C W X → C.sc.kind = .function → mS G C s x = true → PS X x (tS D P cf n W s)
  | .asg t e => fun C W X s ok hk h => by
    unfold mS at h
    split at h
    · rename_i tg x pos
      split at h
      · rename_i i y py
        obtain ⟨h1, h2⟩ := b2 h
        split at h2
        · rename_i own t it c e0 elt tg iter ifs as scope pos
          split at h2
          · rename_i hline
            obtain ⟨h2, h3⟩ := b2 h2
            obtain ⟨h2, s1⟩ := b2 h2
            obtain ⟨h2, s2⟩ := b2 h2
            obtain ⟨h2, s3⟩ := b2 h2
            obtain ⟨h2, s4⟩ := b2 h2
            obtain ⟨h2, s5⟩ := b2 h2
            obtain ⟨h2, hc⟩ := b2 h2
            obtain ⟨h3, h4⟩ := b2 h3
            obtain ⟨h3, h5⟩ := b2 h3
            unfold setcB at h2
            obtain ⟨h2, q1⟩ := b2 h2
            obtain ⟨q3, q2⟩ := b2 h2
            have e1 := of_decide_eq_true s5
            subst e1
            have q3 := of_decide_eq_true q3
            obtain ⟨l1, l2, l3⟩ := loc_of ok h1
            have hb : BlkOk X.N X.env.scope scope (ownOf C own) := by rw [ok.N, ok.sc]; exact blkOk_by s3
            have hy : X.env.scope.names.lookup y = some .local := by rw [ok.sc]; exact q3
            have hsw := sw_true (elt := elt) (gs := [⟨tg, iter, ifs, 0⟩]) (scope := scope) (pos := pos) (py := py) (y := y) (l := (by assumption : Pos).line) (env := X.env) (by rw [ok.sc]; exact hk) hy q2 (nb q1)
            refine is_setC ok h1 q3 hsw (fun tq tt te a b c => ps_setLc (ok.calm hc) (by rw [ok.N]; exact ok.nd) l1 hy hsw a hb (fun s H Cc cl fp => mT_ok (ok.blkd s H scope cl Cc fp) s2) b c (fold_set (nb s4))) (fun i hi => by
                have := List.all_eq_true.mp s1 i hi
                simpa using this) (okI it C W X _ _ ok h3) (fun s H Cc cl fp => okEc c (C.blkd scope) WF _ _ (ok.blkd s H scope cl Cc fp) h5) (fun s H Cc cl fp => (okE e0 (C.blkd scope) WF _ _ (ok.blkd s H scope cl Cc fp) h4).1)
          · rename_i hline
            exact is_setL ok (okE _ C W X _ ok h2).1 h1 (by simpa [Expr.pos] using hline)
        · obtain ⟨h2, h3⟩ := b2 h2
          exact is_set ok (okE _ C W X _ ok h3).1 h1 (nb h2)
      · rename_i i k y1 px y2 py _ _
        split at h
        · rename_i a b x1 x2 _ _
          obtain ⟨h1, h2⟩ := b2 h
          obtain ⟨h1, s0⟩ := b2 h1
          obtain ⟨h1, s1⟩ := b2 h1
          obtain ⟨h1, s2⟩ := b2 h1
          obtain ⟨h1, s3⟩ := b2 h1
          obtain ⟨h1, s4⟩ := b2 h1
          obtain ⟨h1, s5⟩ := b2 h1
          obtain ⟨h1, s6⟩ := b2 h1
          obtain ⟨h1, s7⟩ := b2 h1
          obtain ⟨h1, s8⟩ := b2 h1
          obtain ⟨hc, s9⟩ := b2 h1
          obtain ⟨h2, h3⟩ := b2 h2
          obtain ⟨l1, _, l1s⟩ := loc_of ok s8
          obtain ⟨l9, _, l9s⟩ := loc_of ok s9
          have k1 : X.env.scope.names.lookup y1 = some .local := by rw [ok.sc]; exact of_decide_eq_true s7
          have k2 : X.env.scope.names.lookup y2 = some .local := by rw [ok.sc]; exact of_decide_eq_true s6
          have kf := kind_fn (X := X) (by rw [ok.sc]; exact hk)
          have hargs := ia_cons (okE a C W X _ ok h2).1 (ia_cons (okE b C W X _ ok h3).1 ia_nil (nb s2)) (nb s3)
          by_cases hf : (foldedForSure 8 x1 && foldedForSure 8 x2) = true
          · refine is_asg ok.K (ie_tup hargs) (mT_ok ok ?_) rfl (fold_swap kf k1 k2 s5 (nb s4) (nb s3) (nb s2) hf) rfl
            show (C.calm && (locB C i y1 && (locB C k y2 && true))) = true
            rw [hc, s9, s8]
            rfl
          · have hf2 : (foldedForSure 8 x1 && foldedForSure 8 x2) = false := by simpa using hf
            rw [hf2, Bool.false_or] at s0
            exact is_par ok hc hargs s9 s8 (of_decide_eq_true s1) fun t ht => ps_par (ok.calm hc) (by rw [ok.N]; exact ok.nd) l9 l1 (of_decide_eq_true s1) k1 k2 ht (par_swap kf k1 k2 s5 (nb s4) (nb s3) (nb s2) hf2 (nb s0))
        · obtain ⟨h1, h2⟩ := b2 h
          obtain ⟨h1, s1⟩ := b2 h1
          obtain ⟨h1, s2⟩ := b2 h1
          exact is_asg ok.K (okE _ C W X _ ok h2).1 (mT_ok ok s1) (nb h1) (no_swapS (nb s2)) rfl
      · obtain ⟨h1, h2⟩ := b2 h
        obtain ⟨h1, s1⟩ := b2 h1
        obtain ⟨h1, s2⟩ := b2 h1
        obtain ⟨h1, s3⟩ := b2 h1
        refine is_asg ok.K (okE _ C W X _ ok h2).1 (mT_ok ok s1) (nb h1) (no_swapS (nb s3)) ?_
        cases tg <;> first | (cases s2; done) | rfl
      · cases h
    · cases h
  | .setf o f e => fun C W X x ok hk h => by unfold mS at h; cases h
  | .seti o i e => fun C W X x ok hk h => by
    unfold mS at h
    split at h
    · obtain ⟨h1, h2⟩ := b2 h
      obtain ⟨h1, h5⟩ := b2 h1
      obtain ⟨h2, h3⟩ := b2 h2
      obtain ⟨h2, h4⟩ := b2 h2
      exact is_seti (okE o C W X _ ok h2).1 (okE i C W X _ ok h4).1 (okE e C W X _ ok h3).1 (nb h1) (nb h5) no_swapN
    · cases h
  | .aug i o e => fun C W X x ok hk h => by
    unfold mS at h
    split at h
    · obtain ⟨h1, h2⟩ := b2 h
      obtain ⟨hl, h3⟩ := b2 h1
      split at h3
      · exact is_augA ok (okE e C W X _ ok h2).1 hl
      · exact is_augS ok (okE e C W X _ ok h2).1 hl
      · cases h3
    · cases h
  | .augf o f p e => fun C W X x ok hk h => by unfold mS at h; cases h
  | .exp e => fun C W X x ok hk h => by
    unfold mS at h
    split at h
    · obtain ⟨h1, h2⟩ := b2 h
      exact is_exp (okE e C W X _ ok h2).1 (nb h1)
    · cases h
  | .ret e => fun C W X x ok hk h => by
    unfold mS at h
    split at h
    · exact is_ret (okE e C W X _ ok h).1
    · cases h
  | .retN => fun C W X x ok hk h => by
    unfold mS at h
    split at h
    · exact is_retN
    · cases h
  | .ifS c a b => fun C W X x ok hk h => by
    unfold mS at h
    split at h
    · obtain ⟨h1, h2⟩ := b2 h
      obtain ⟨h2, h3⟩ := b2 h2
      exact is_if (okE c C W X _ ok h1).2.1 (okSs a C W X _ ok hk h2) (okSs b C W X _ ok hk h3)
    · cases h
  | .whl c b => fun C W X x ok hk h => by
    unfold mS at h
    split at h
    · obtain ⟨h1, h2⟩ := b2 h
      exact is_while ok (okE c C W X _ ok h1).2.1 (okSs b C W X _ ok hk h2)
    · cases h
  | .for_ t it b => fun C W X x ok hk h => by
    unfold mS at h
    split at h
    · obtain ⟨h1, h2⟩ := b2 h
      obtain ⟨h1, s1⟩ := b2 h1
      obtain ⟨h1, s2⟩ := b2 h1
      obtain ⟨h2, h3⟩ := b2 h2
      exact is_for ok h1 (okI it C W X _ _ ok h2) (mT_ok ok s2) (okSs b C W X _ ok hk h3) (fold_set (nb s1))
    · cases h
  | .brk => fun C W X x ok hk h => by
    unfold mS at h
    split at h
    · exact is_brk
    · cases h
  | .cnt => fun C W X x ok hk h => by
    unfold mS at h
    split at h
    · exact is_cnt
    · cases h
  | .pass => fun C W X x ok hk h => by
    unfold mS at h
    split at h
    · exact is_pass
    · cases h
  | .raise c es => fun C W X x ok hk h => by
    unfold mS at h
    split at h
    · obtain ⟨h1, h2⟩ := b2 h
      obtain ⟨h1, h3⟩ := b2 h1
      obtain ⟨hc, h4⟩ := b2 h1
      obtain ⟨as, ha⟩ := Option.isSome_iff_exists.mp h3
      exact is_raise ok hc (of_decide_eq_true h4) ha h2
    · cases h
  | .tryM b hs => fun C W X x ok hk h => by
    unfold mS at h
    split at h
    · obtain ⟨h1, h2⟩ := b2 h
      obtain ⟨h1, h3⟩ := b2 h1
      obtain ⟨h2, h4⟩ := b2 h2
      exact is_try ok h1 h3 (fun W' pn xe ok' => okSs b C W' _ _ ok' hk h2) (okHs hs C W X _ ok hk h3 h4)
    · cases h
  | .tryAs b c i hh => fun C W X x ok hk h => by unfold mS at h; cases h
  | .del o i => fun C W X x ok hk h => by unfold mS at h; cases h
theorem okSs : ∀ (s : Sts) (C : Cfg) (W : WX) (X : Cx) (x : List Stmt), CxOk D G P cf j C W X → C.sc.kind = .function → mSs G C s x = true → PSs X x (tSs D P cf n W s)
  | .nil => fun C W X x ok hk h => by
    unfold mSs at h
    cases x with
    | nil => exact iss_nil
    | cons x xs => cases h
  | .cons s r => fun C W X x ok hk h => by
    unfold mSs at h
    split at h
    · obtain ⟨h1, h2⟩ := b2 h
      exact iss_cons (okS s C W X _ ok hk h1) (okSs r C W X _ ok hk h2)
    · cases h
theorem okHs : ∀ (hs : Hs) (C : Cfg) (W : WX) (X : Cx) (x : List ExceptHandler), CxOk D G P cf j C W X → C.sc.kind = .function → hsIn G hs = true → mHs G C hs x = true → HdsOk X x (hdL D P cf n hs)
  | .nil => fun C W X x ok hk hi h => by
    unfold mHs at h
    cases x with
    | nil => exact .nil
    | cons x xs => cases h
  | .cons c hh r => fun C W X x ok hk hi h => by
    unfold mHs at h
    unfold hsIn at hi
    obtain ⟨hi1, hi2⟩ := b2 hi
    obtain ⟨as, ha⟩ := Option.isSome_iff_exists.mp hi1
    split at h
    · obtain ⟨h1, h2⟩ := b2 h
      obtain ⟨h1, h3⟩ := b2 h1
      obtain ⟨h2, h4⟩ := b2 h2
      obtain ⟨hg, hd⟩ := glo_of ok h3
      exact .cons ⟨hg, hd, .inl (ok.exc c _ as (of_decide_eq_true h1) ha).1⟩ (fun a oe cls d pn _ _ => okSs hh C.hot WF _ _ (ok.suite a _) hk h2) (okHs r C W X _ ok hk hi2 h4)
    · cases h
end
end
end PyI
set_option Elab.async false
set_option linter.all false
set_option autoImplicit false
set_option maxRecDepth 100000
set_option maxHeartbeats 4000000
/-! Defs and the law. -/
namespace PyI
open PySem L2
/-- a def: where it stands, its names by number, its parameters, its body in the small machine -/
structure DefI where
  d : He.DefD
  N : List PySem.Str
  ps : List PySem.Str
  fn : Fn
def fsB (N ps : List PySem.Str) (sc : Scope) : Bool := decide (sc.kind = .function) && !sc.isCoroutine && !sc.isGenerator && decide N.Nodup && decide (N.take ps.length = ps) &&
  (ps.all fun x => decide (sc.names.lookup x = some .local) || decide (sc.names.lookup x = some .cell)) && (sc.names.all fun y => decide (y.2 ≠ .free))
theorem fs_of {N ps : List PySem.Str} {sc : Scope} (h : fsB N ps sc = true) : FnScope N ps sc := by
  unfold fsB at h
  simp only [Bool.and_eq_true, decide_eq_true_eq, Bool.not_eq_true', List.all_eq_true, Bool.or_eq_true] at h
  obtain ⟨⟨⟨⟨⟨⟨h1, h2⟩, h3⟩, h4⟩, h5⟩, h6⟩, h7⟩ := h
  exact ⟨h1, h2, h3, h4, h5, h6, h7⟩
def cfgOf (t : DefI) : Cfg := { N := t.N, sc := t.d.scope, st := fun _ => true, calm := true, top := true }
def defB (G : Gc) (t : DefI) : Bool := fsB t.N t.ps t.d.scope && decide (t.fn.np = t.ps.length) && decide (t.fn.nl = t.N.length) && t.d.dfl.isEmpty && t.d.kwd.isEmpty && mSs G (cfgOf t) t.fn.body t.d.body
def BindsAll : List DefI → Prop
  | [] => True
  | t :: ts => (∀ (kV doc pm : Value) (an : Option Addr) (cdv ct : Value) (us : List Value), us.length = t.ps.length → bindArgs (PySem.W.fnOf t.d.name t.d.qual t.d.params t.d.body t.d.scope .none kV doc pm an cdv ct) ⟨us, []⟩ = pure (t.ps.zip us)) ∧ BindsAll ts
theorem BindsAll.at : ∀ {T : List DefI} {f : Nat} {t : DefI}, BindsAll T → T[f]? = some t → ∀ (kV doc pm : Value) (an : Option Addr) (cdv ct : Value) (us : List Value), us.length = t.ps.length → bindArgs (PySem.W.fnOf t.d.name t.d.qual t.d.params t.d.body t.d.scope .none kV doc pm an cdv ct) ⟨us, []⟩ = pure (t.ps.zip us)
  | [], f, t, _, h => by simp at h
  | x :: ts, 0, t, h, e => by
    simp at e; subst e; exact h.1
  | x :: ts, f + 1, t, h, e => BindsAll.at h.2 (by simpa using e)
/-- what the head has told -/
structure Hd (D : Wd) (G : Gc) (P : Pg) (T : List DefI) (mg : PySem.Str → Option Value) : Prop where
  funs : ∀ (f : Nat) (t : DefI), T[f]? = some t → ∃ fd, FunD D.K t.d.name t.d.qual t.d.params t.d.body t.d.scope [] [] (D.fA f) fd
  glob : ∀ (f : Nat) (x : PySem.Str), G.fnm[f]? = some (some x) → mg x = some (.ref (D.fA f)) ∧ ∃ t, T[f]? = some t
  chk : ∀ (f : Nat) (t : DefI), T[f]? = some t → defB G t = true
  bnd : BindsAll T
  fns : P.fns = T.map (·.fn)
  fr : ∀ x ∈ G.free, mg x = none
  gl : ∀ (g : Nat) (x : PySem.Str) (u : U), G.gnm[g]? = some x → P.glo[g]? = some u → ∃ val, mg x = some val ∧ ∀ φ H, ∃ v, RelU D φ H u v ∧ RelV v val
  exs : P.excs = G.exs
  noi : ∀ c as, G.exs.lookup c = some as → P.inits.lookup c = none
  exc : ∀ (c : Nat) (x : PySem.Str) (as : List Nat), G.cnm[c]? = some x → G.exs.lookup c = some as → mg x = some (.ref (D.cA c)) ∧ PySem.W.excIn D.K (D.cA c) [.type "ValueError", .type "Exception", .type "BaseException", .type "object"] "ValueError.__new__" = true ∧ PySem.W.keepIn D.K (.ref (D.cA c)) = true ∧ PySem.W.subIn D.K (.ref (D.cA c)) (.type "BaseException") = some true ∧ PySem.W.typeIn D.K (.ref (D.cA c)) = some (.type "type")
  exm : ∀ (c c' : Nat) (as as' : List Nat), G.exs.lookup c = some as → G.exs.lookup c' = some as' → PySem.W.exmOne D.K (.ref (D.cA c)) (.ref (D.cA c')) = some (decide (c' ∈ as))
section
variable {D : Wd} {G : Gc} {P : Pg} {T : List DefI} {mg : PySem.Str → Option Value} {prog : Program} {w : World} {base : Heap} {n : Nat}
theorem fin_sat {o : Out} {φ : List Addr} {H : Hp} {Q : VK} {E : XK} (h : SatR D (fin o) (RelU D) φ H Q E) : SatO D o φ H { nx := fun _ H' => Q .non H', rt := Q } (fun c d _ H => E c d H) := by
  cases o with
  | nx env S => exact fun φ1 H1 σ1 p t g e => h φ1 H1 .non p t g .non
  | rt u S => exact h
  | bk env S => exact h.elim
  | ct env S => exact h.elim
  | exc c d env S => exact fun φ1 H1 σ1 dv p t g e r => h φ1 H1 dv p t g r
  | stuck => exact h.elim
theorem rel_start {φ : List Addr} {H : Hp} {us : List U} {vs : List V} {N : List PySem.Str} {np nl : Nat} (r : RelUs D φ H us vs) (hn : us.length = np) (hl : nl = N.length) : RelE D φ H (us.map some ++ List.replicate (nl - np) none) (L2.start N vs) := by
  unfold L2.start
  refine ⟨?_, fun i u h => ?_⟩
  · simp [r.len, ← hn, hl]
  · by_cases q : i < us.length
    · rw [List.getElem?_append_left (by simpa using q)] at h
      rw [List.getElem?_map] at h
      obtain ⟨u', h1, h2⟩ := Option.map_eq_some_iff.mp h
      cases h2
      obtain ⟨v, h3, h4⟩ := r.at h1
      refine ⟨v, ?_, h4⟩
      rw [List.getElem?_append_left (by simpa [← r.len] using q), List.getElem?_map, h3]
      rfl
    · rw [List.getElem?_append_right (by simpa using q)] at h
      have := (List.getElem?_eq_some_iff.mp h).2
      simp at this
theorem fn_level (hd : Hd D G P T mg) : ∀ (k f : Nat) (t : DefI), T[f]? = some t → ∃ fd, FnOk prog w D.K mg base (L2.CX prog w) (2 * k) (D.fA f) fd t.ps (spI D (callN P n k) f) ∧ PySem.W.keepIn D.K (.ref (D.fA f)) = true ∧ Binds D.K fd t.ps [] ∧
    FunD D.K t.d.name t.d.qual t.d.params t.d.body t.d.scope [] [] (D.fA f) fd := by
  intro k
  induction k with
  | zero =>
    intro f t ht
    obtain ⟨fd, F⟩ := hd.funs f t ht
    refine ⟨fd, ⟨fun vs H Q E h => ?_, fun A outer s H args us vs Q E _ _ _ _ h => ?_⟩, F.kp, FunD.bindsN F (hd.bnd.at ht), F⟩
    · obtain ⟨φ, S, us, _, _, q⟩ := h; exact q.elim
    · obtain ⟨φ, S, us, _, _, q⟩ := h; exact q.elim
  | succ k ih =>
    intro f t ht
    obtain ⟨fd, F⟩ := hd.funs f t ht
    have ck := hd.chk f t ht
    unfold defB at ck
    simp only [Bool.and_eq_true, decide_eq_true_eq] at ck
    obtain ⟨⟨⟨⟨⟨c1, c2⟩, c3⟩, c4⟩, c5⟩, c6⟩ := ck
    have hf : P.fns[f]? = some t.fn := by rw [hd.fns, List.getElem?_map, ht]; rfl
    have sc := fs_of c1
    refine ⟨fd, FunD.ok (k := 2 * k + 1) F sc (fun vs H Q E h => ?_) (fun cdv A outer s H vs Q E hr h => ?_), F.kp, FunD.bindsN F (hd.bnd.at ht), F⟩
    · obtain ⟨φ, S, us, g, r, q⟩ := h
      unfold callN at q
      rw [hf] at q
      by_cases hl : us.length = t.fn.np
      · rw [← r.len, hl, c2]
      · dsimp only at q
        rw [if_neg hl] at q; exact q.elim
    · obtain ⟨φ, S, us, g, r, q⟩ := h
      unfold callN at q
      rw [hf] at q
      dsimp only at q
      by_cases hl : us.length = t.fn.np
      · rw [if_pos hl] at q
        have ok : CxOk D G P (callN P n k) (2 * k) (cfgOf t) (fun c d _ H => E c d H) (cxOf (L2.CX prog w) prog w D.K mg base t.N t.d.qual t.d.scope (D.fA f) cdv A outer s H E) := {
          K := rfl
          N := rfl
          nd := sc.nd
          sc := rfl
          calm := fun _ => rfl
          room := fun _ => hr
          tk := takes_of rfl rfl rfl rfl
          po := passes_of rfl
          fnS := fun _ _ => rfl
          fr := hd.fr
          gl := hd.gl
          top := fun _ => ⟨rfl, rfl⟩
          exs := hd.exs
          noi := hd.noi
          exc := fun c x as hx ha => by
            obtain ⟨a1, a2, a3, a4, a5⟩ := hd.exc c x as hx ha
            exact ⟨a1, a2, a3, raises_own a4 a5⟩
          exm := hd.exm
          fns := fun f' x hx => by
            obtain ⟨h1, t', h2⟩ := hd.glob f' x hx
            obtain ⟨fd', a, b, c, _⟩ := ih f' t' h2
            exact ⟨fd', t'.ps, a, h1, b, c⟩ }
        exact ⟨_, okSs t.fn.body (cfgOf t) _ _ _ ok sc.kind c6, φ, _, S, g, rel_start r hl c3, fin_sat q⟩
      · rw [if_neg hl] at q; exact q.elim
theorem FnOk.cx {CX CX' : CXT} {k : Nat} {f : Addr} {fd : FuncData} {ps : List PySem.Str} {sp : Sp} {K : PySem.W.Frag} (F : FnOk prog w K mg base CX k f fd ps sp) (h : ∀ o H s E u s', CX o H s E u s' → CX' o H s E u s') : FnOk prog w K mg base CX' k f fd ps sp :=
  ⟨F.len, fun A outer s H args us vs Q E a b c d e => codeAny_mono (F.run A outer s H args us vs Q E a b c d e) fun r s' q => by
    cases r with
    | error u => exact h _ _ _ _ _ _ q
    | ok fl => cases fl <;> exact q⟩
/-- the law's promise at a script -/
theorem law_sp {f k : Nat} {m : Nat} (hlaw : ∀ ns : List Int, ns.length ≤ m → ∃ S1, callN P n k f [.ref 0] [.fz (ns.map .int)] = .val (.bl true) S1) (H : Hp) (a : Addr) (ns : List Int) (hn : ns.length ≤ m) (hO : Only H) (hS : SqL D.K H a (ns.map V.int)) :
    spI D (callN P n k) f [.ref a] H (fun v _ => v = .bl true) fun _ _ _ => False := by
  obtain ⟨S1, h1⟩ := hlaw ns hn
  refine ⟨[a], [.fz (ns.map .int)], [.ref 0], ⟨rfl, fun l c b e f => ?_, fun l k c d b e1 e2 t1 t2 _ _ => ?_⟩, .cons (.ref rfl) .nil, ?_⟩
  · cases l with
    | zero =>
      simp at e f
      subst e f
      refine ⟨ns.map V.int, ?_, RelUs.ofInts ns⟩
      rcases hS with (h | ⟨o, h⟩) | h
      · rcases hO a with q | ⟨o, xs, q⟩
        · rw [q] at h; cases h
        · rw [q] at h; cases h
      · exact .inl ⟨o, h⟩
      · exact .inr fun H => .inr h
    | succ l => simp at e
  · cases l with
    | zero => simp at e1; subst e1; cases t1
    | succ l => simp at e1
  · rw [h1]
    intro φ1 H1 v _ _ _ r
    cases r
    rfl
end
theorem FunD.same {K : PySem.W.Frag} {x qual : PySem.Str} {params : Arguments} {body : List Stmt} {scope : Scope} {f : Addr} {fd fd' : FuncData} (F : FunD K x qual params body scope [] [] f fd) (F' : FunD K x qual params body scope [] [] f fd') : fd = fd' := by
  obtain ⟨oc, od, dV, kV, doc, pm, an, cdv, ct, osl, e1, l1, _⟩ := F.ex
  obtain ⟨oc', od', dV', kV', doc', pm', an', cdv', ct', osl', e2, l2, _⟩ := F'.ex
  rw [l1] at l2
  injection l2 with l2
  injection l2 with a b c
  injection c
/-- an exception of the law, in any world -/
def CXw (prog : Program) : CXT := fun o H s E u s' => ∃ w, L2.CX prog w o H s E u s'
theorem CXw.no {prog : Program} (H : Hp) (s : Shared) (e : Value) (s' : Shared) (h : CXw prog [] H s (fun _ _ _ => False) e s') : False := by
  obtain ⟨w, _, _, _, _, _, _, _, _, _, _, _, _, z⟩ := h
  exact z.elim
/-! ### the head's facts -/
/-- constants of the module: ints, texts -/
inductive Gv where
  | int (i : Int) | str (x : PySem.Str) | tup (us : List (Int ⊕ PySem.Str))
def flG : Int ⊕ PySem.Str → U
  | .inl i => .int i
  | .inr x => .str x
def flD : Int ⊕ PySem.Str → He.Dv
  | .inl i => .int i
  | .inr x => .str x
def Gv.u : Gv → U
  | .int i => .int i
  | .str x => .str x
  | .tup us => .tup (us.map flG)
def Gv.fct (x : PySem.Str) : Gv → He.Fa
  | .int i => .int x i
  | .str z => .str x z
  | .tup _ => .glo x
/-- what is asked of a tuple beyond its name -/
def Gv.ex (x : PySem.Str) (K : PySem.W.Frag) : Gv → Bool
  | .tup us => He.tupB K x (us.map flD)
  | _ => true
def exOf (gs : List (PySem.Str × Gv)) (K : PySem.W.Frag) : Bool := gs.all fun q => q.2.ex q.1 K
theorem rel_flat {D : Wd} {φ : List Addr} {H : Hp} : ∀ us : List (Int ⊕ PySem.Str), RelUs D φ H (us.map flG) ((us.map flD).map (He.Dv.v D.K))
  | [] => .nil
  | .inl i :: us => .cons (.int i) (rel_flat us)
  | .inr i :: us => .cons (.str i) (rel_flat us)
section
variable {fa : List He.Fa} {K : PySem.W.Frag} {h : Heap} {mg : PySem.Str → Option Value}
def fnAd (T : List DefI) (K : PySem.W.Frag) (f : Nat) : Addr := match T[f]? with
  | some t => He.fAd K t.d.at_
  | none => 0
def fnNm (T : List DefI) : List (Option PySem.Str) := T.map fun t => match t.d.at_.2 with
  | none => some t.d.at_.1
  | some _ => none
/-- the facts that a program wants -/
def cNm (G : Gc) (c : Nat) : PySem.Str := G.cnm.getD c PySem.Str.empty
def clAd (G : Gc) (K : PySem.W.Frag) (c : Nat) : Addr := He.ga K (cNm G c)
/-- the facts about exceptions -/
def exFa (G : Gc) : List He.Fa := G.exs.flatMap fun p => He.Fa.glo (cNm G p.1) :: He.Fa.exc (cNm G p.1) :: G.exs.map fun q => He.Fa.exm (cNm G p.1) (cNm G q.1) (decide (q.1 ∈ p.2))
def faOf (T : List DefI) (G : Gc) : List He.Fa := ((fnNm T).filterMap fun o => o.map He.Fa.glo) ++ (G.free.map He.Fa.free ++ exFa G)
theorem look_mem {α : Type} : ∀ {l : List (Nat × α)} {c : Nat} {a : α}, l.lookup c = some a → (c, a) ∈ l
  | [], c, a, h => by cases h
  | (b, x) :: l, c, a, h => by
    rw [List.lookup_cons] at h
    split at h
    · cases h
      rename_i e
      rw [beq_iff_eq] at e
      subst e
      exact List.mem_cons_self
    · exact List.mem_cons_of_mem _ (look_mem h)
theorem hd_of {P : Pg} {T : List DefI} {G : Gc} {gs : List (PySem.Str × Gv)} {nm : List PySem.Str} {fn : List He.DefD} (hfn : fn = T.map (·.d)) (hG : G.fnm = fnNm T) (hg : G.gnm = gs.map (·.1)) (hP : P.glo = gs.map (·.2.u)) (hF : P.fns = T.map (·.fn)) (hfa : fa = faOf T G ++ gs.map fun q => q.2.fct q.1)
    (hc : T.all (defB G) = true) (hb : BindsAll T) (hs : T.all (fun t => t.d.dfl.isEmpty && t.d.kwd.isEmpty) = true) (X : K.In h) (N : h.Ns mainGlobals mg) (c : He.SaysD fa fn K) (ce : exOf gs K = true) (he : P.excs = G.exs) (hni : P.inits = []) : Hd ⟨K, nm, fnAd T K, clAd G K⟩ G P T mg where
  funs := fun f t ht => by
    have hm : t ∈ T := List.mem_of_getElem? ht
    have hd : t.d ∈ fn := by rw [hfn]; exact List.mem_map_of_mem hm
    obtain ⟨fd, F⟩ := c.defs hd
    have h2 := List.all_eq_true.mp hs t hm
    rw [Bool.and_eq_true, List.isEmpty_iff, List.isEmpty_iff] at h2
    have e1 : t.d.dvs K = [] := by unfold He.DefD.dvs; rw [h2.1]; rfl
    have e2 : t.d.kws K = [] := by unfold He.DefD.kws; rw [h2.2]; rfl
    rw [e1, e2] at F
    refine ⟨fd, ?_⟩
    show FunD K _ _ _ _ _ [] [] (fnAd T K f) fd
    unfold fnAd
    rw [ht]
    exact F
  glob := fun f x hx => by
    rw [hG] at hx
    unfold fnNm at hx
    rw [List.getElem?_map] at hx
    obtain ⟨t, ht, e⟩ := Option.map_eq_some_iff.mp hx
    refine ⟨?_, t, ht⟩
    cases q : t.d.at_.2 with
    | some m => rw [q] at e; cases e
    | none =>
      rw [q] at e
      have e : t.d.at_.1 = x := Option.some.inj e
      have hm : (He.Fa.glo x) ∈ fa := by
        rw [hfa]
        refine List.mem_append_left _ (List.mem_append_left _ ?_)
        refine List.mem_filterMap.mpr ⟨some x, ?_, rfl⟩
        exact List.mem_map.mpr ⟨t, List.mem_of_getElem? ht, by rw [q, e]⟩
      have := He.glo_ok X N (c.facts hm)
      rw [this]
      show _ = some (Value.ref (fnAd T K f))
      unfold fnAd
      rw [ht]
      unfold He.fAd
      dsimp only
      rw [q]
      dsimp only
      rw [e]
  chk := fun f t ht => List.all_eq_true.mp hc t (List.mem_of_getElem? ht)
  bnd := hb
  fns := hF
  fr := fun x hx => He.free_ok X N (c.facts (by
    rw [hfa]
    exact List.mem_append_left _ (List.mem_append_right _ (List.mem_append_left _ (List.mem_map_of_mem hx)))))
  exs := he
  noi := fun c as h => by rw [hni]; rfl
  exc := fun ci x as hx ha => by
    have e : cNm G ci = x := by unfold cNm; rw [List.getD_eq_getElem?_getD, hx]; rfl
    have hm := look_mem ha
    have m1 : He.Fa.glo x ∈ fa := by
      rw [hfa]
      refine List.mem_append_left _ (List.mem_append_right _ (List.mem_append_right _ ?_))
      exact List.mem_flatMap.mpr ⟨_, hm, by rw [← e]; exact List.mem_cons_self⟩
    have m2 : He.Fa.exc x ∈ fa := by
      rw [hfa]
      refine List.mem_append_left _ (List.mem_append_right _ (List.mem_append_right _ ?_))
      exact List.mem_flatMap.mpr ⟨_, hm, by rw [← e]; exact List.mem_cons_of_mem _ List.mem_cons_self⟩
    have q1 := He.glo_ok X N (c.facts m1)
    obtain ⟨q2, q3, q4, q5⟩ := He.exc_ok (c.facts m2)
    show mg x = some (.ref (clAd G K ci)) ∧ PySem.W.excIn K (clAd G K ci) _ _ = true ∧ PySem.W.keepIn K (.ref (clAd G K ci)) = true ∧ PySem.W.subIn K (.ref (clAd G K ci)) _ = _ ∧ PySem.W.typeIn K (.ref (clAd G K ci)) = _
    rw [show clAd G K ci = He.ga K x by unfold clAd; rw [e]]
    exact ⟨q1, q2, q3, q4, q5⟩
  exm := fun ci c' as as' h h' => by
    have m1 : He.Fa.exm (cNm G ci) (cNm G c') (decide (c' ∈ as)) ∈ fa := by
      rw [hfa]
      refine List.mem_append_left _ (List.mem_append_right _ (List.mem_append_right _ ?_))
      exact List.mem_flatMap.mpr ⟨_, look_mem h, List.mem_cons_of_mem _ (List.mem_cons_of_mem _ (List.mem_map.mpr ⟨_, look_mem h', rfl⟩))⟩
    exact He.exm_ok (c.facts m1)
  gl := fun g x u hx hu => by
    rw [hg, List.getElem?_map] at hx
    rw [hP, List.getElem?_map] at hu
    obtain ⟨q, hq, rfl⟩ := Option.map_eq_some_iff.mp hx
    rw [hq] at hu
    cases hu
    have hm : q.2.fct q.1 ∈ fa := by
      rw [hfa]
      exact List.mem_append_right _ (List.mem_map.mpr ⟨q, List.mem_of_getElem? hq, rfl⟩)
    have cf := c.facts hm
    cases e : q.2 with
    | int i =>
      rw [e] at cf
      obtain ⟨t, h2⟩ := He.int_ok X N cf
      exact ⟨_, h2, fun φ H => ⟨.int i, by show RelU _ _ _ q.2.u _; rw [e]; exact .int i, t, rfl⟩⟩
    | str z =>
      rw [e] at cf
      obtain ⟨t, h2⟩ := He.str_ok X N cf
      exact ⟨_, h2, fun φ H => ⟨.str z, by show RelU _ _ _ q.2.u _; rw [e]; exact .str z, t, rfl⟩⟩
    | tup us =>
      rw [e] at cf
      have h2 := He.glo_ok X N cf
      have h3 := List.all_eq_true.mp ce q (List.mem_of_getElem? hq)
      rw [e] at h3
      exact ⟨_, h2, fun φ H => ⟨.ref (He.ga K q.1), by show RelU _ _ _ q.2.u _; rw [e]; exact .tup (He.tupB_ok h3 H) (rel_flat us), rfl⟩⟩
end
end PyI
set_option linter.all false
set_option autoImplicit false
set_option maxRecDepth 100000
set_option maxHeartbeats 1000000
/-! Running the small machine: calls, loops, the law's row. -/
namespace PyI
section
variable {P : Pg} {n : Nat}
theorem call_succ {k f : Nat} {fn : Fn} {us : List U} {S : Store} (h : P.fns[f]? = some fn) (hl : us.length = fn.np) : callN P n (k + 1) f us S = fin (exs P (callN P n k) n fn.body (us.map some ++ List.replicate (fn.nl - fn.np) none) S) := by
  show (match P.fns[f]? with
    | some fn => if us.length = fn.np then fin (exs P (callN P n k) n fn.body (us.map some ++ List.replicate (fn.nl - fn.np) none) S) else .stuck
    | none => .stuck) = _
  rw [h]
  exact if_pos hl
theorem okW_nil (S : Store) : okW [] S = true := rfl
theorem okW_cons {l : Nat} {us : List U} {w : List (Nat × List U)} {S : Store} : okW ((l, us) :: w) S = (by classical exact decide (itemsU S (.ref l) = some us) && okW w S) := by
  unfold okW
  rfl
theorem okW_one {l : Nat} {us : List U} {S : Store} (h : S[l]? = some (.lst us) ∨ S[l]? = some (.fz us)) : okW [(l, us)] S = true := by
  unfold okW
  rcases h with h | h <;> simp [itemsU, h]
/-- a for whose body goes on -/
theorem loopF_go {t : Tg} {b : Env → Store → Out} {w : List (Nat × List U)} (Inv : Nat → Env → Store → Prop) (hw : ∀ i env S, Inv i env S → okW w S = true) :
    ∀ (items : List U) (i : Nat) (env : Env) (S : Store), (∀ (j : Nat) (u : U) (env : Env) (S : Store), items[j]? = some u → Inv (i + j) env S → ∃ env1, bindT t u env = some env1 ∧ ∃ e S1, (b env1 S = .nx e S1 ∨ b env1 S = .ct e S1) ∧ Inv (i + j + 1) e S1) →
    Inv i env S → ∃ e S1, loopF t b w items env S = .nx e S1 ∧ Inv (i + items.length) e S1
  | [], i, env, S, _, h0 => ⟨env, S, by unfold loopF; rw [hw i env S h0]; rfl, h0⟩
  | u :: us, i, env, S, st, h0 => by
    obtain ⟨env1, h1, e, S1, h2, h3⟩ := st 0 u env S rfl h0
    have ih := loopF_go Inv hw us (i + 1) e S1 (fun j u env S hj hI => by
      have := st (j + 1) u env S (by simpa using hj) (by rw [show i + (j + 1) = i + 1 + j by omega]; exact hI)
      rw [show i + (j + 1) + 1 = i + 1 + j + 1 by omega] at this
      exact this) h3
    obtain ⟨e', S', h4, h5⟩ := ih
    refine ⟨e', S', ?_, by rw [show i + (u :: us).length = i + 1 + us.length by simp; omega]; exact h5⟩
    unfold loopF
    rw [hw i env S h0]
    simp only [if_true, h1]
    rcases h2 with h2 | h2 <;> rw [h2] <;> exact h4
/-- over a range -/
theorem loop_range {t : Tg} {b : Env → Store → Out} {m : Nat} {lo : Int} {env : Env} {S : Store} (Inv : Nat → Env → Store → Prop) (h0 : Inv 0 env S)
    (st : ∀ (j : Nat) (env : Env) (S : Store), j < m → Inv j env S → ∃ env1, bindT t (.int (lo + j)) env = some env1 ∧ ∃ e S1, (b env1 S = .nx e S1 ∨ b env1 S = .ct e S1) ∧ Inv (j + 1) e S1) :
    ∃ e S1, loopF t b [] ((List.range m).map fun (k : Nat) => U.int (lo + k)) env S = .nx e S1 ∧ Inv m e S1 := by
  have := loopF_go (t := t) (b := b) (w := []) Inv (fun _ _ S _ => okW_nil S) ((List.range m).map fun (k : Nat) => U.int (lo + k)) 0 env S (fun j u env S hj hI => by
    rw [List.getElem?_map] at hj
    obtain ⟨k, hk, rfl⟩ := Option.map_eq_some_iff.mp hj
    have h1 := (List.getElem?_eq_some_iff.mp hk).1
    rw [List.getElem?_range (by simpa using h1)] at hk
    cases hk
    rw [Nat.zero_add] at hI ⊢
    exact st _ env S (by simpa using h1) hI) h0
  simpa using this
theorem loop_range0 {t : Tg} {b : Env → Store → Out} {m : Nat} {env : Env} {S : Store} (Inv : Nat → Env → Store → Prop) (h0 : Inv 0 env S)
    (st : ∀ (j : Nat) (env : Env) (S : Store), j < m → Inv j env S → ∃ env1, bindT t (.int j) env = some env1 ∧ ∃ e S1, (b env1 S = .nx e S1 ∨ b env1 S = .ct e S1) ∧ Inv (j + 1) e S1) :
    ∃ e S1, loopF t b [] ((List.range m).map fun (k : Nat) => U.int k) env S = .nx e S1 ∧ Inv m e S1 := by
  have := loop_range (t := t) (b := b) (m := m) (lo := 0) (env := env) (S := S) Inv h0 (fun j env S hj hI => by
    rw [Int.zero_add]
    exact st j env S hj hI)
  simpa using this

/-! ### one step each, for simp -/
section
variable {α β : Type} {S : Store} {env : Env}
@[simp] theorem bind_val (a : α) (f : α → Store → R β) : (R.val a S).bind f = f a S := rfl
@[simp] theorem bind_exc (c : Nat) (d : Option Nat) (f : α → Store → R β) : (R.exc c d S : R α).bind f = .exc c d S := rfl
@[simp] theorem bind_stuck (f : α → Store → R β) : (R.stuck : R α).bind f = .stuck := rfl
@[simp] theorem out_val (a : α) (f : α → Store → Out) : (R.val a S).out env f = f a S := rfl
@[simp] theorem out_exc (c : Nat) (d : Option Nat) (f : α → Store → Out) : (R.exc c d S : R α).out env f = .exc c d env S := rfl
@[simp] theorem out_stuck (f : α → Store → Out) : (R.stuck : R α).out env f = .stuck := rfl
@[simp] theorem ofO_some (a : α) : ofO S (some a) = .val a S := rfl
@[simp] theorem ofO_none : ofO S (none : Option α) = .stuck := rfl
@[simp] theorem noX_val (a : α) : noX (.val a S) = .val a S := rfl
@[simp] theorem fin_rt (u : U) : fin (.rt u S) = .val u S := rfl
@[simp] theorem fin_nx : fin (.nx env S) = .val .non S := rfl
@[simp] theorem fin_exc (c : Nat) (d : Option Nat) : fin (.exc c d env S) = .exc c d S := rfl
@[simp] theorem nxO_some : nxO env (some S) = .nx env S := rfl
@[simp] theorem truU_non : truU S .non = some false := rfl
@[simp] theorem truU_bl (b : Bool) : truU S (.bl b) = some b := rfl
@[simp] theorem truU_int (i : Int) : truU S (.int i) = some (i != 0) := rfl
@[simp] theorem truU_tup (us : List U) : truU S (.tup us) = some (!us.isEmpty) := rfl
@[simp] theorem bin_addI (i j : Int) : binU .add (.int i) (.int j) S = .val (.int (i + j)) S := rfl
@[simp] theorem bin_subI (i j : Int) : binU .sub (.int i) (.int j) S = .val (.int (i - j)) S := rfl
@[simp] theorem bin_mulI (i j : Int) : binU .mul (.int i) (.int j) S = if i.natAbs < 18446744073709551616 ∨ j.natAbs < 18446744073709551616 then .val (.int (i * j)) S else .stuck := rfl
@[simp] theorem bin_fdivI (i : Int) (j : Int) (h : 0 < j ∧ j < 18446744073709551616) : binU .fdiv (.int i) (.int j) S = .val (.int (i / j)) S := if_pos h
@[simp] theorem bin_modI (i : Int) (j : Int) (h : 0 < j) : binU .mod (.int i) (.int j) S = .val (.int (i % j)) S := if_pos h
@[simp] theorem bin_addT (us ws : List U) (h : us.length + ws.length ≤ LINE) : binU .add (.tup us) (.tup ws) S = .val (.tup (us ++ ws)) S := if_pos h
@[simp] theorem cmp_ltI (i j : Int) : cmpU S .lt (.int i) (.int j) = some (decide (i < j)) := rfl
@[simp] theorem cmp_leI (i j : Int) : cmpU S .le (.int i) (.int j) = some (decide (i ≤ j)) := rfl
@[simp] theorem cmp_gtI (i j : Int) : cmpU S .gt (.int i) (.int j) = some (decide (j < i)) := rfl
@[simp] theorem cmp_geI (i j : Int) : cmpU S .ge (.int i) (.int j) = some (decide (j ≤ i)) := rfl
@[simp] theorem cmp_eqU (u w : U) : cmpU S .eq u w = eqU S u w := rfl
@[simp] theorem cmp_neU (u w : U) : cmpU S .ne u w = (eqU S u w).map (!·) := rfl
@[simp] theorem cmp_memU (u w : U) : cmpU S .mem u w = memU S u w := rfl
@[simp] theorem cmp_nmemU (u w : U) : cmpU S .nmem u w = (memU S u w).map (!·) := rfl
@[simp] theorem cmp_isNn : cmpU S .isN .non .non = some true := rfl
@[simp] theorem cmp_isNi (i : Int) : cmpU S .isN (.int i) .non = some false := rfl
@[simp] theorem cmp_isNs (i : Str) : cmpU S .isN (.str i) .non = some false := rfl
@[simp] theorem cmp_isNt (i : List U) : cmpU S .isN (.tup i) .non = some false := rfl
@[simp] theorem cmp_isNb (i : Bool) : cmpU S .isN (.bl i) .non = some false := rfl
@[simp] theorem cmp_isNr (i : Nat) : cmpU S .isN (.ref i) .non = some false := rfl
@[simp] theorem cmp_notNn : cmpU S .notN .non .non = some false := rfl
@[simp] theorem cmp_notNi (i : Int) : cmpU S .notN (.int i) .non = some true := rfl
@[simp] theorem cmp_notNs (i : Str) : cmpU S .notN (.str i) .non = some true := rfl
@[simp] theorem cmp_notNt (i : List U) : cmpU S .notN (.tup i) .non = some true := rfl
@[simp] theorem cmp_notNb (i : Bool) : cmpU S .notN (.bl i) .non = some true := rfl
@[simp] theorem cmp_notNr (i : Nat) : cmpU S .notN (.ref i) .non = some true := rfl
@[simp] theorem eq_int (i j : Int) : eqU S (.int i) (.int j) = some (decide (i = j)) := rfl
@[simp] theorem eq_str (i j : Str) : eqU S (.str i) (.str j) = some (decide (i = j)) := rfl
@[simp] theorem ix_tup (us : List U) (i : Int) : ixU S (.tup us) (.int i) = atU us i := rfl
theorem ix_lst {l : Nat} {us : List U} (h : S[l]? = some (.lst us)) (i : Int) : ixU S (.ref l) (.int i) = atU us i := by simp only [ixU, h]
theorem ix_fz {l : Nat} {us : List U} (h : S[l]? = some (.fz us)) (i : Int) : ixU S (.ref l) (.int i) = atU us i := by simp only [ixU, h]
theorem at_nat {α : Type} (xs : List α) (i : Nat) : atU xs (i : Int) = xs[i]? := by
  unfold atU
  rw [if_pos (by omega)]
  split
  · simp
  · rw [List.getElem?_eq_none (by omega)]
@[simp] theorem at_zero {α : Type} (xs : List α) : atU xs 0 = xs[0]? := at_nat xs 0
@[simp] theorem at_one {α : Type} (xs : List α) : atU xs 1 = xs[1]? := at_nat xs 1
@[simp] theorem at_nn {α : Type} (xs : List α) (i : Int) (h : 0 ≤ i) : atU xs i = xs[i.toNat]? := by
  have := at_nat xs i.toNat
  rwa [Int.toNat_of_nonneg h] at this
@[simp] theorem line_eq : LINE = 16777216 := rfl
@[simp] theorem at_last {α : Type} (xs : List α) : atU xs (-1) = xs.getLast? := by
  unfold atU
  rw [if_neg (by omega), List.getLast?_eq_getElem?]
  split
  · congr 1; omega
  · rw [List.getElem?_eq_none (by omega)]
@[simp] theorem bind_nm (i : Nat) (u : U) : bindT (.nm i) u env = some (env.set i (some u)) := rfl
@[simp] theorem bind_tp (ts : List Nat) (us : List U) : bindT (.tp ts) (.tup us) env = if ts.length = us.length then some ((ts.zip us).foldl (fun e p => e.set p.1 (some p.2)) env) else none := rfl
@[simp] theorem bi_int (i : Int) : biU .int [.int i] S = .val (.int i) S := rfl
@[simp] theorem bi_intB (b : Bool) : biU .int [.bl b] S = .val (.int (if b then 1 else 0)) S := rfl
@[simp] theorem bi_abs (i : Int) : biU .abs [.int i] S = .val (.int (if i < 0 then -i else i)) S := rfl
@[simp] theorem bi_min (i j : Int) : biU .min [.int i, .int j] S = .val (.int (min i j)) S := by
  show R.val (U.int (if j < i then j else i)) S = _
  congr 2
  split <;> omega
@[simp] theorem bi_max (i j : Int) : biU .max [.int i, .int j] S = .val (.int (max i j)) S := by
  show R.val (U.int (if j > i then j else i)) S = _
  congr 2
  split <;> omega
@[simp] theorem bi_len (u : U) : biU .len [u] S = ofO S ((lenU S u).map fun (n : Nat) => U.int (n : Int)) := rfl
@[simp] theorem len_tup (us : List U) : lenU S (.tup us) = some us.length := rfl
theorem len_lst {l : Nat} {us : List U} (h : S[l]? = some (.lst us)) : lenU S (.ref l) = some us.length := by simp only [lenU, h]
theorem len_fz {l : Nat} {us : List U} (h : S[l]? = some (.fz us)) : lenU S (.ref l) = some us.length := by simp only [lenU, h]
@[simp] theorem newC_eq (c : Cell) : newC c S = .val (.ref S.length) (S ++ [c]) := rfl
theorem newL_eq (us : List U) (h : us.length ≤ LINE) : newL us S = .val (.ref S.length) (S ++ [.lst us]) := if_pos h
theorem append_eq {l : Nat} {us : List U} (u : U) (h : S[l]? = some (.lst us)) (hz : us.length < LINE) : bmU .append (.ref l) [u] S = .val .non (S.set l (.lst (us ++ [u]))) := by simp only [bmU, h, hz, if_true]
theorem ty_append {l : Nat} {us : List U} (h : S[l]? = some (.lst us)) : tyU .append S (.ref l) = true := by simp only [tyU, h]
@[simp] theorem sqS_tup (us : List U) : sqS S (.tup us) = some ⟨us, []⟩ := rfl
@[simp] theorem sqS_ref (l : Nat) : sqS S (.ref l) = sqU S (.ref l) := rfl
@[simp] theorem sqS_str (x : Str) : sqS S (.str x) = some ⟨x.cps.toList.map fun c => .str ⟨#[c]⟩, []⟩ := rfl
@[simp] theorem sq_tup (us : List U) : sqU S (.tup us) = some ⟨us, []⟩ := rfl
theorem sq_lst {l : Nat} {us : List U} (h : S[l]? = some (.lst us)) : sqU S (.ref l) = some ⟨us, [(l, us)]⟩ := by simp only [sqU, h]
end
/-! ### a loop turn by turn -/
def Out.go (o : Out) (f : Env → Store → Out) : Out := match o with
  | .nx e S => f e S
  | .ct e S => f e S
  | .bk e S => .nx e S
  | .rt u S => .rt u S
  | .exc c d e S => .exc c d e S
  | .stuck => .stuck
section
variable {S : Store} {env : Env} {f : Env → Store → Out}
@[simp] theorem go_nx : (Out.nx env S).go f = f env S := rfl
@[simp] theorem go_ct : (Out.ct env S).go f = f env S := rfl
@[simp] theorem go_bk : (Out.bk env S).go f = .nx env S := rfl
@[simp] theorem go_rt (u : U) : (Out.rt u S).go f = .rt u S := rfl
@[simp] theorem go_exc (c : Nat) (d : Option Nat) : (Out.exc c d env S).go f = .exc c d env S := rfl
theorem loopF_cons {t : Tg} {b : Env → Store → Out} {w : List (Nat × List U)} {u : U} {us : List U} (h : okW w S = true) : loopF t b w (u :: us) env S = (bindT t u env).elim .stuck fun env1 => (b env1 S).go (loopF t b w us) := by
  rw [loopF, h]
  cases bindT t u env with
  | none => rfl
  | some e => 
    simp only [if_true, Option.elim]
    cases b e S <;> rfl
theorem loopF_nil {t : Tg} {b : Env → Store → Out} {w : List (Nat × List U)} (h : okW w S = true) : loopF t b w [] env S = .nx env S := by
  rw [loopF, h]; rfl
@[simp] theorem loopF_cons0 {t : Tg} {b : Env → Store → Out} {u : U} {us : List U} : loopF t b [] (u :: us) env S = (bindT t u env).elim .stuck fun env1 => (b env1 S).go (loopF t b [] us) := loopF_cons rfl
@[simp] theorem loopF_nil0 {t : Tg} {b : Env → Store → Out} : loopF t b [] [] env S = .nx env S := loopF_nil rfl
end

/-! ### comprehensions that leave the store; lists of ints compared -/
theorem at_end (S : Store) (c : Cell) : (S ++ [c])[S.length]? = some c := by simp
theorem set_end (S : Store) (c d : Cell) : (S ++ [c]).set S.length d = S ++ [d] := by simp
theorem comp_pure {t : Tg} {own : List Nat} {c : Env → Store → R Bool} {e : Env → Store → R U} {w : List (Nat × List U)} {env : Env} {S : Store} (f : U → Bool) (g : U → U) (hw : ∀ acc, okW w (S ++ [.lst acc]) = true) :
    ∀ (items acc : List U), acc.length + items.length ≤ LINE →
    (∀ u ∈ items, ∀ acc, ∃ env1, bindT t u (wipeU env own) = some env1 ∧ c env1 (S ++ [.lst acc]) = .val (f u) (S ++ [.lst acc]) ∧ (f u = true → e env1 (S ++ [.lst acc]) = .val (g u) (S ++ [.lst acc]))) →
    loopC t own c e S.length w env items (S ++ [.lst acc]) = .val () (S ++ [.lst (acc ++ (items.filter f).map g)])
  | [], acc, _, _ => by
    unfold loopC
    rw [hw acc]
    simp
  | u :: us, acc, hz, h => by
    obtain ⟨env1, h1, h2, h3⟩ := h u List.mem_cons_self acc
    have ih := fun acc' hz' => comp_pure f g hw us acc' hz' fun u' hu' => h u' (List.mem_cons_of_mem _ hu')
    unfold loopC
    rw [hw acc]
    simp only [if_true, h1, h2, bind_val]
    rw [List.length_cons] at hz
    cases hf : f u with
    | false =>
      simp only [Bool.false_eq_true, if_false]
      rw [ih acc (by omega), List.filter_cons_of_neg (by simp [hf])]
    | true =>
      simp only [if_true, h3 hf, bind_val, at_end]
      rw [if_pos (by omega), set_end, ih _ (by rw [List.length_append]; simp only [List.length_cons, List.length_nil]; omega), List.filter_cons_of_pos hf, List.map_cons, List.append_assoc]
      rfl
theorem seqO_map {α β : Type} (f : α → Option β) (g : α → β) (h : ∀ a, f a = some (g a)) : ∀ l : List α, seqO (l.map f) = some (l.map g)
  | [] => rfl
  | a :: l => by
    rw [List.map_cons, h a]
    show (seqO (l.map f)).map _ = _
    rw [seqO_map f g h l]
    rfl
theorem dat_ints {S : Store} {l n : Nat} {ns : List Int} (h : S[l]? = some (.lst (ns.map .int)) ∨ S[l]? = some (.fz (ns.map .int))) : datU S (n + 1) (.ref l) = some (.list (ns.map .int)) := by
  have e : seqO ((ns.map U.int).map (datU S n)) = some (ns.map PySem.PyData.int) := by
    rw [List.map_map]
    exact seqO_map _ _ (fun a => by cases n <;> rfl) ns
  rcases h with h | h <;> simp only [datU, h, e, Option.map]
theorem eqv_ints : ∀ ns ms : List Int, PySem.PyData.eqvAll (ns.map .int) (ms.map .int) = decide (ns = ms)
  | [], [] => by simp [PySem.PyData.eqvAll]
  | [], m :: ms => by simp [PySem.PyData.eqvAll]
  | n :: ns, [] => by simp [PySem.PyData.eqvAll]
  | n :: ns, m :: ms => by
    simp only [List.map_cons, PySem.PyData.eqvAll, PySem.PyData.eqv, eqv_ints ns ms]
    by_cases h : n = m <;> by_cases h2 : ns = ms <;> simp [h, h2]
theorem eq_ints {S : Store} {l k : Nat} {ns ms : List Int} (h : S[l]? = some (.lst (ns.map .int)) ∨ S[l]? = some (.fz (ns.map .int))) (h2 : S[k]? = some (.lst (ms.map .int)) ∨ S[k]? = some (.fz (ms.map .int))) : eqU S (.ref l) (.ref k) = some (decide (ns = ms)) := by
  simp only [eqU, eqD, dat_ints h, dat_ints h2, PySem.PyData.eqv, eqv_ints]

/-! ### the law's row -/
def lawCell : Sts := (.cons (.asg (.nm 2) (.int 0)) (.cons (.ifS (.cmp .gt (.bi .len (.cons (.var 0) .nil)) (.int 0)) (.cons (.asg (.nm 2) (.ix (.var 0) (.bin .mod (.bi .int (.cons (.var 1) .nil)) (.bi .len (.cons (.var 0) .nil))))) .nil) .nil) (.cons (.ifS (.cmp .lt (.var 2) (.int 0)) (.cons (.asg (.nm 2) (.bin .sub (.int 1) (.bin .mul (.int 2) (.var 2)))) .nil) .nil) (.cons (.ret (.var 2)) .nil))))
def lawRow (c : Nat) : Sts := (.cons (.asg (.nm 2) (.call c (.cons (.var 0) (.cons (.var 1) .nil)))) (.cons (.ifS (.and (.cmp .lt (.var 1) (.bi .len (.cons (.var 0) .nil))) (.cmp .ge (.var 2) (.int 1000000000))) (.cons (.ret (.var 2)) .nil) .nil) (.cons (.asg (.nm 3) (.bin .mod (.bi .int (.cons (.bin .add (.bin .add (.bin .mul (.var 2) (.int 48271)) (.bin .mul (.var 1) (.int 69621))) (.int 12345)) .nil)) (.int 2147483647))) (.cons (.asg (.nm 4) (.bin .mod (.bi .int (.cons (.bin .add (.bin .add (.bin .mul (.var 3) (.var 3)) (.bin .mul (.int 16807) (.var 1))) (.int 7)) .nil)) (.int 2147483629))) (.cons (.ret (.bin .add (.bin .mod (.bi .int (.cons (.bin .add (.bin .mul (.var 4) (.var 4)) (.var 3)) .nil)) (.int 4294967291)) (.bin .mul (.int 4294967296) (.bin .add (.var 3) (.int 1))))) .nil)))))
/-- the cell that a place has -/
def cellV (ns : List Int) (k : Int) : Int :=
  let c := if 0 < (ns.length : Int) then ns.getD (k % (ns.length : Int)).toNat 0 else 0
  if c < 0 then 1 - 2 * c else c
def rowV (ns : List Int) (k : Int) : Int :=
  if k < ns.length ∧ 1000000000 ≤ cellV ns k then cellV ns k else
  let one := (cellV ns k * 48271 + k * 69621 + 12345) % 2147483647
  let two := (one * one + 16807 * k + 7) % 2147483629
  (two * two + one) % 4294967291 + 4294967296 * (one + 1)
theorem cellV_nn (ns : List Int) (k : Int) : 0 ≤ cellV ns k := by
  unfold cellV
  dsimp only
  split <;> split <;> omega
theorem rowV_nn (ns : List Int) (k : Int) : 0 ≤ rowV ns k := by
  have := cellV_nn ns k
  unfold rowV
  dsimp only
  split <;> omega
theorem at_map {ns : List Int} {i : Nat} (h : i < ns.length) : atU (ns.map U.int) (i : Int) = some (.int (ns.getD i 0)) := by
  unfold atU
  rw [if_pos (by omega), if_pos (by simpa using h)]
  simp [h]
theorem cell_run {k : Nat} {fc : Fn} {c : Nat} (hf : P.fns[c]? = some ⟨2, 3, lawCell⟩) {S : Store} {l : Nat} {ns : List Int} (hS : S[l]? = some (.fz (ns.map U.int))) (i : Int) : callN P n (k + 1) c [.ref l, .int i] S = .val (.int (cellV ns i)) S := by
  rw [call_succ hf rfl]
  have h1 : lenU S (.ref l) = some ns.length := by simp [lenU, hS]
  by_cases hn : 0 < (ns.length : Int)
  · have hn2 : 0 < ns.length := by omega
    have h2 : ixU S (.ref l) (.int (i % (ns.length : Int))) = some (.int (ns.getD (i % (ns.length : Int)).toNat 0)) := by
      have hlt : (i % (ns.length : Int)).toNat < ns.length := by
        have := Int.emod_nonneg i (show (ns.length : Int) ≠ 0 by omega)
        have := Int.emod_lt_of_pos i hn
        omega
      have := at_map hlt
      rw [Int.toNat_of_nonneg (Int.emod_nonneg i (by omega))] at this
      simp only [ixU, hS, this]
    unfold cellV
    simp only [hn, if_true]
    generalize ns.getD (i % (ns.length : Int)).toNat 0 = z at h2
    by_cases hz : z < 0
    · simp [lawCell, h1, h2, hn2, hz]
    · simp [lawCell, h1, h2, hn2, hz]
  · have hl : ns.length = 0 := by omega
    unfold cellV
    simp [lawCell, h1, hl]
theorem row_run {k : Nat} {c r : Nat} (hc : P.fns[c]? = some ⟨2, 3, lawCell⟩) (hr : P.fns[r]? = some ⟨2, 5, lawRow c⟩) {S : Store} {l : Nat} {ns : List Int} (hS : S[l]? = some (.fz (ns.map U.int))) (i : Int) : callN P n (k + 2) r [.ref l, .int i] S = .val (.int (rowV ns i)) S := by
  rw [call_succ hr rfl]
  have h1 : lenU S (.ref l) = some ns.length := by simp [lenU, hS]
  have h2 := cell_run (n := n) (k := k) (fc := ⟨2, 3, lawCell⟩) hc hS i
  unfold rowV
  generalize cellV ns i = z at h2
  generalize ho : (z * 48271 + i * 69621 + 12345) % 2147483647 = one
  have b1 : 0 ≤ one ∧ one < 2147483647 := by subst ho; omega
  dsimp only
  generalize ht : (one * one + 16807 * i + 7) % 2147483629 = two
  have b2 : 0 ≤ two ∧ two < 2147483629 := by subst ht; omega
  by_cases hi : i < (ns.length : Int)
  · by_cases hz : 1000000000 ≤ z
    · simp [lawRow, h1, h2, hi, hz, bin_mulI]
    · simp [lawRow, h1, h2, hi, hz, bin_mulI, ho, ht, show one.natAbs < 18446744073709551616 by omega, show two.natAbs < 18446744073709551616 by omega]
  · simp [lawRow, h1, h2, hi, bin_mulI, ho, ht, show one.natAbs < 18446744073709551616 by omega, show two.natAbs < 18446744073709551616 by omega]
end
end PyI
namespace PyI
/-! ### tuples of ints compared -/
theorem dat_int (S : Store) (n : Nat) (i : Int) : datU S n (.int i) = some (.int i) := by cases n <;> rfl
theorem dat_tupI {S : Store} {n : Nat} (ns : List Int) : datU S (n + 1) (.tup (ns.map .int)) = some (.tuple (ns.map .int)) := by
  have e : seqO ((ns.map U.int).map (datU S n)) = some (ns.map PySem.PyData.int) := by
    rw [List.map_map]
    exact seqO_map _ _ (fun a => dat_int S n a) ns
  simp only [datU, e, Option.map]
theorem eq_tupI {S : Store} (ns ms : List Int) : eqU S (.tup (ns.map .int)) (.tup (ms.map .int)) = some (decide (ns = ms)) := by
  simp only [eqU, eqD, dat_tupI, PySem.PyData.eqv, eqv_ints]
@[simp] theorem eq_tup2 {S : Store} (a b c d : Int) : eqU S (.tup [.int a, .int b]) (.tup [.int c, .int d]) = some (decide (a = c ∧ b = d)) := by
  rw [show eqU S (.tup [.int a, .int b]) (.tup [.int c, .int d]) = _ from eq_tupI [a, b] [c, d]]
  simp
@[simp] theorem eq_tup3 {S : Store} (a b x c d y : Int) : eqU S (.tup [.int a, .int b, .int x]) (.tup [.int c, .int d, .int y]) = some (decide (a = c ∧ b = d ∧ x = y)) := by
  rw [show eqU S (.tup [.int a, .int b, .int x]) (.tup [.int c, .int d, .int y]) = _ from eq_tupI [a, b, x] [c, d, y]]
  simp
@[simp] theorem eq_tup4 {S : Store} (a b x z c d y w : Int) : eqU S (.tup [.int a, .int b, .int x, .int z]) (.tup [.int c, .int d, .int y, .int w]) = some (decide (a = c ∧ b = d ∧ x = y ∧ z = w)) := by
  rw [show eqU S (.tup [.int a, .int b, .int x, .int z]) (.tup [.int c, .int d, .int y, .int w]) = _ from eq_tupI [a, b, x, z] [c, d, y, w]]
  simp
theorem get_app {S T : Store} {l : Nat} {c : Cell} (h : S[l]? = some c) : (S ++ T)[l]? = some c := by
  rw [List.getElem?_append_left (List.getElem?_eq_some_iff.mp h).1]
  exact h
theorem get_end (S : Store) (c : Cell) : (S ++ [c])[S.length]? = some c := by simp
end PyI
namespace PyI
section
variable {S : Store}
@[simp] theorem cut_tupE (us : List U) (lo hi : Option Int) : cutE (.tup us) lo hi S = .val (.tup (cutU us lo hi)) S := rfl
theorem cut_lstE {l : Nat} {us : List U} (h : S[l]? = some (.lst us)) (lo hi : Option Int) : cutE (.ref l) lo hi S = .val (.ref S.length) (S ++ [.lst (cutU us lo hi)]) := by simp only [cutE, h]; rfl
@[simp] theorem eq_bl (a b : Bool) : eqU S (.bl a) (.bl b) = some (decide (a = b)) := by cases a <;> cases b <;> rfl
@[simp] theorem eq_nnI (a : Int) : eqU S (.int a) .non = some false := rfl
@[simp] theorem eq_nnN : eqU S .non .non = some true := rfl
@[simp] theorem eq_nIn (a : Int) : eqU S .non (.int a) = some false := rfl
@[simp] theorem eq_nS (a : Str) : eqU S (.str a) .non = some false := rfl
@[simp] theorem eq_nS2 (a : Str) : eqU S .non (.str a) = some false := rfl
end
end PyI
namespace PyI
theorem ev_comp {P : Pg} {cf : Nat → List U → Store → R U} {own : List Nat} {t : Tg} {it : It} {c : Eo} {e : E} {env : Env} {S S1 : Store} {q : Sq} (hq : evi P cf it env S = .val q S1) (f : U → Bool) (g : U → U) (hw : ∀ acc, okW q.watch (S1 ++ [.lst acc]) = true) (hl : q.items.length ≤ LINE)
    (h : ∀ u ∈ q.items, ∀ acc, ∃ env1, bindT t u (wipeU env own) = some env1 ∧ evc P cf c env1 (S1 ++ [.lst acc]) = .val (f u) (S1 ++ [.lst acc]) ∧ (f u = true → ev P cf e env1 (S1 ++ [.lst acc]) = .val (g u) (S1 ++ [.lst acc]))) :
    ev P cf (.comp own t it c e) env S = .val (.ref S1.length) (S1 ++ [.lst ((q.items.filter f).map g)]) := by
  have := comp_pure (t := t) (own := own) (c := evc P cf c) (e := ev P cf e) (w := q.watch) (env := env) (S := S1) f g hw q.items [] (by simpa using hl) h
  rw [ev, hq, bind_val, this]
  rfl
/-- no test -/
theorem ev_comp1 {P : Pg} {cf : Nat → List U → Store → R U} {own : List Nat} {t : Tg} {it : It} {e : E} {env : Env} {S S1 : Store} {q : Sq} (hq : evi P cf it env S = .val q S1) (g : U → U) (hw : ∀ acc, okW q.watch (S1 ++ [.lst acc]) = true) (hl : q.items.length ≤ LINE)
    (h : ∀ u ∈ q.items, ∀ acc, ∃ env1, bindT t u (wipeU env own) = some env1 ∧ ev P cf e env1 (S1 ++ [.lst acc]) = .val (g u) (S1 ++ [.lst acc])) :
    ev P cf (.comp own t it .none e) env S = .val (.ref S1.length) (S1 ++ [.lst (q.items.map g)]) := by
  have := ev_comp (c := .none) hq (fun _ => true) g hw hl fun u hu acc => by
    obtain ⟨env1, h1, h2⟩ := h u hu acc
    exact ⟨env1, h1, rfl, fun _ => h2⟩
  rw [this, List.filter_eq_self.mpr (fun _ _ => rfl)]
/-- over a list of the store -/
theorem evi_seq {P : Pg} {cf : Nat → List U → Store → R U} {a : E} {env : Env} {S : Store} {l : Nat} {us : List U} (ha : ev P cf a env S = .val (.ref l) S) (h : S[l]? = some (.lst us)) : evi P cf (.seq a) env S = .val ⟨us, [(l, us)]⟩ S := by
  rw [evi, ha, bind_val]
  show ofO S (sqU S (.ref l)) = _
  rw [sq_lst h]
  rfl
theorem okW_app {l : Nat} {us : List U} {S T : Store} (h : S[l]? = some (.lst us)) : okW [(l, us)] (S ++ T) = true := okW_one (.inl (get_app h))
theorem asInts_map : ∀ ns : List Int, asInts (ns.map U.int) = some ns
  | [] => rfl
  | n :: ns => by simp only [List.map_cons, asInts, asInts_map ns]; rfl
theorem min_run {S : Store} {l : Nat} {ns : List Int} (h : S[l]? = some (.lst (ns.map .int))) (hn : ns ≠ []) : ∃ m, m ∈ ns ∧ (∀ y ∈ ns, m ≤ y) ∧ ∀ (S' : Store) (l' : Nat), S'[l']? = some (.lst (ns.map .int)) → biU .minL [.ref l'] S' = .val (.int m) S' := by
  cases hm : ns.min? with
  | none => exact absurd (List.min?_eq_none_iff.mp hm) hn
  | some m =>
    obtain ⟨a, b⟩ := List.min?_eq_some_iff.mp hm
    refine ⟨m, a, b, fun S' l' h' => ?_⟩
    show (match ((itemsU S' (.ref l')).bind asInts).bind List.min? with
      | some m => R.val (U.int m) S'
      | none => .stuck) = _
    simp only [itemsU, h', Option.bind_some, asInts_map, hm]
theorem eqF_int (a b : Int) : eqF (.int a) (.int b) = (a == b) := rfl
theorem index_run {ns : List Int} {m : Int} (hm : m ∈ ns) : ∃ i : Nat, ns[i]? = some m ∧ ∀ (S : Store) (l : Nat), S[l]? = some (.lst (ns.map .int)) → bmU .index (.ref l) [.int m] S = .val (.int i) S := by
  have e : (ns.map U.int).findIdx? (fun z => eqF z (.int m)) = ns.findIdx? (fun z => z == m) := by
    rw [List.findIdx?_map]
    rfl
  cases hi : ns.findIdx? (fun z => z == m) with
  | none =>
    have := List.findIdx?_eq_none_iff.mp hi m hm
    simp at this
  | some i =>
    obtain ⟨h1, h2, _⟩ := List.findIdx?_eq_some_iff_getElem.mp hi
    refine ⟨i, by rw [List.getElem?_eq_getElem h1]; simpa using h2, fun S l h => ?_⟩
    have fl : flU (.int m) = true ∧ (ns.map U.int).all flU = true := ⟨rfl, by simp [flU]⟩
    simp only [bmU, h, fl, e, hi, and_self, if_true]
theorem ty_index {l : Nat} {us : List U} {S : Store} (h : S[l]? = some (.lst us)) : tyU .index S (.ref l) = true := by simp only [tyU, h]
theorem ty_insert {l : Nat} {us : List U} {S : Store} (h : S[l]? = some (.lst us)) : tyU .insert S (.ref l) = true := by simp only [tyU, h]
theorem ty_extend {l : Nat} {us : List U} {S : Store} (h : S[l]? = some (.lst us)) : tyU .extend S (.ref l) = true := by simp only [tyU, h]
@[simp] theorem bi_max3 {S : Store} (i j k : Int) : biU .max [.int i, .int j, .int k] S = .val (.int (max (max i j) k)) S := by
  show R.val (U.int (if (if i < j then j else i) < k then k else (if i < j then j else i))) S = _
  congr 2
  split <;> split <;> omega
@[simp] theorem bin_and255 {S : Store} (i : Int) : binU .band (.int i) (.int 255) S = .val (.int (i % 256)) S := rfl
@[simp] theorem cmp_isB' {S : Store} (a b : Bool) : cmpU S .is (.bl a) (.bl b) = some (decide (a = b)) := rfl
@[simp] theorem cmp_isnotB' {S : Store} (a b : Bool) : cmpU S .isnot (.bl a) (.bl b) = some (!decide (a = b)) := rfl
@[simp] theorem bi_isi {S : Store} (t : Ty) (u : U) : biU (.isi t) [u] S = ofO S ((isiU S u t).map .bl) := rfl
end PyI
namespace PyI
@[simp] theorem wipeU_nil (env : Env) : wipeU env [] = env := rfl
@[simp] theorem wipeU_cons (env : Env) (v : Nat) (vs : List Nat) : wipeU env (v :: vs) = (wipeU env vs).set v none := rfl
/-- over a list with a reading -/
theorem comp_pureM {α : Type} (ι : α → U) {t : Tg} {own : List Nat} {c : Env → Store → R Bool} {e : Env → Store → R U} {w : List (Nat × List U)} {env : Env} {S : Store} (f : α → Bool) (g : α → U) (hw : ∀ acc, okW w (S ++ [.lst acc]) = true) :
    ∀ (items : List α) (acc : List U), acc.length + items.length ≤ LINE →
    (∀ a ∈ items, ∀ acc, ∃ env1, bindT t (ι a) (wipeU env own) = some env1 ∧ c env1 (S ++ [.lst acc]) = .val (f a) (S ++ [.lst acc]) ∧ (f a = true → e env1 (S ++ [.lst acc]) = .val (g a) (S ++ [.lst acc]))) →
    loopC t own c e S.length w env (items.map ι) (S ++ [.lst acc]) = .val () (S ++ [.lst (acc ++ (items.filter f).map g)])
  | [], acc, _, _ => by
    rw [List.map_nil]
    unfold loopC
    rw [hw acc]
    simp
  | u :: us, acc, hz, h => by
    obtain ⟨env1, h1, h2, h3⟩ := h u List.mem_cons_self acc
    have ih := fun acc' hz' => comp_pureM ι f g hw us acc' hz' fun u' hu' => h u' (List.mem_cons_of_mem _ hu')
    rw [List.map_cons]
    unfold loopC
    rw [hw acc]
    simp only [if_true, h1, h2, bind_val]
    rw [List.length_cons] at hz
    cases hf : f u with
    | false =>
      simp only [Bool.false_eq_true, if_false]
      rw [ih acc (by omega), List.filter_cons_of_neg (by simp [hf])]
    | true =>
      simp only [if_true, h3 hf, bind_val, at_end]
      rw [if_pos (by omega), set_end, ih _ (by rw [List.length_append]; simp only [List.length_cons, List.length_nil]; omega), List.filter_cons_of_pos hf, List.map_cons, List.append_assoc]
      rfl
theorem ev_compF {α : Type} (ι : α → U) {P : Pg} {cf : Nat → List U → Store → R U} {own : List Nat} {t : Tg} {it : It} {c : Eo} {e : E} {env : Env} {S S1 : Store} {items : List α} {w : List (Nat × List U)} (hq : evi P cf it env S = .val ⟨items.map ι, w⟩ S1) (f : α → Bool) (g : α → U) (hw : ∀ acc, okW w (S1 ++ [.lst acc]) = true) (hl : items.length ≤ LINE)
    (h : ∀ u ∈ items, ∀ acc, ∃ env1, bindT t (ι u) (wipeU env own) = some env1 ∧ evc P cf c env1 (S1 ++ [.lst acc]) = .val (f u) (S1 ++ [.lst acc]) ∧ (f u = true → ev P cf e env1 (S1 ++ [.lst acc]) = .val (g u) (S1 ++ [.lst acc]))) :
    ev P cf (.comp own t it c e) env S = .val (.ref S1.length) (S1 ++ [.lst ((items.filter f).map g)]) := by
  have := comp_pureM ι (t := t) (own := own) (c := evc P cf c) (e := ev P cf e) (w := w) (env := env) (S := S1) f g hw items [] (by simpa using hl) h
  rw [ev, hq, bind_val, this]
  rfl
theorem ev_compM {α : Type} (ι : α → U) {P : Pg} {cf : Nat → List U → Store → R U} {own : List Nat} {t : Tg} {it : It} {e : E} {env : Env} {S S1 : Store} {items : List α} {w : List (Nat × List U)} (hq : evi P cf it env S = .val ⟨items.map ι, w⟩ S1) (g : α → U) (hw : ∀ acc, okW w (S1 ++ [.lst acc]) = true) (hl : items.length ≤ LINE)
    (h : ∀ u ∈ items, ∀ acc, ∃ env1, bindT t (ι u) (wipeU env own) = some env1 ∧ ev P cf e env1 (S1 ++ [.lst acc]) = .val (g u) (S1 ++ [.lst acc])) :
    ev P cf (.comp own t it .none e) env S = .val (.ref S1.length) (S1 ++ [.lst (items.map g)]) := by
  have := ev_compF ι (c := .none) hq (fun _ => true) g hw hl fun u hu acc => by
    obtain ⟨env1, h1, h2⟩ := h u hu acc
    exact ⟨env1, h1, rfl, fun _ => h2⟩
  rw [this, List.filter_eq_self.mpr (fun _ _ => rfl)]
end PyI
namespace PyI
/-- a for that hands back at the first item of a kind -/
theorem loopF_find {α : Type} (ι : α → U) {t : Tg} {b : Env → Store → Out} {w : List (Nat × List U)} {S : Store} (Inv : Env → Prop) (p : α → Bool) (r : α → U) (hw : okW w S = true) :
    ∀ (items : List α) (env : Env), (∀ a ∈ items, ∀ env, Inv env → ∃ env1, bindT t (ι a) env = some env1 ∧ (p a = true → b env1 S = .rt (r a) S) ∧ (p a = false → ∃ e, (b env1 S = .nx e S ∨ b env1 S = .ct e S) ∧ Inv e)) → Inv env →
    (∀ a, items.find? p = some a → loopF t b w (items.map ι) env S = .rt (r a) S) ∧ (items.find? p = none → ∃ e, loopF t b w (items.map ι) env S = .nx e S ∧ Inv e)
  | [], env, _, h0 => ⟨fun a h => (by cases h), fun _ => ⟨env, by rw [List.map_nil]; exact loopF_nil hw, h0⟩⟩
  | a :: as, env, h, h0 => by
    obtain ⟨env1, h1, h2, h3⟩ := h a List.mem_cons_self env h0
    rw [List.map_cons, loopF_cons hw, h1]
    cases hp : p a with
    | true =>
      rw [List.find?_cons_of_pos hp]
      refine ⟨fun x hx => ?_, fun hx => by cases hx⟩
      cases hx
      show (b env1 S).go _ = _
      rw [h2 hp]
      rfl
    | false =>
      obtain ⟨e, h4, h5⟩ := h3 hp
      have ih := loopF_find ι Inv p r hw as e (fun x hx => h x (List.mem_cons_of_mem _ hx)) h5
      rw [List.find?_cons_of_neg (by simp [hp])]
      show (∀ x, _ → (b env1 S).go _ = _) ∧ (_ → ∃ e, (b env1 S).go _ = _ ∧ _)
      rcases h4 with h4 | h4 <;> rw [h4] <;> exact ih
theorem find_any {α : Type} (p : α → Bool) : ∀ l : List α, (∃ a, l.find? p = some a ∧ l.any p = true) ∨ (l.find? p = none ∧ l.any p = false)
  | [] => .inr ⟨rfl, rfl⟩
  | a :: l => by
    cases hp : p a with
    | true => exact .inl ⟨a, by rw [List.find?_cons_of_pos hp], by rw [List.any_cons, hp]; rfl⟩
    | false =>
      rw [List.find?_cons_of_neg (by simp [hp]), List.any_cons, hp, Bool.false_or]
      exact find_any p l
theorem dat_tup3 {S : Store} {n : Nat} (x : Str) (a b : Int) (h : PySem.PyData.strOk x = true) : datU S (n + 1) (.tup [.str x, .int a, .int b]) = some (.tuple [.str x, .int a, .int b]) := by
  have e : datU S n (.str x) = some (.str x) := by cases n <;> simp only [datU, h, if_true]
  simp only [datU, List.map_cons, List.map_nil, e, dat_int]
  rfl
theorem eq_tup3S {S : Store} (x : Str) (a b : Int) (h : PySem.PyData.strOk x = true) : eqU S (.tup [.str x, .int a, .int b]) (.tup [.str x, .int a, .int b]) = some true := by
  simp only [eqU, eqD, dat_tup3 _ _ _ h, PySem.PyData.eqv, PySem.PyData.eqvAll]
  simp
end PyI
namespace PyI
/-- a for that goes through and leaves the store -/
theorem loopF_same {α : Type} (ι : α → U) {t : Tg} {b : Env → Store → Out} {w : List (Nat × List U)} {S : Store} (Inv : Env → Prop) (hw : okW w S = true) (items : List α) (env : Env)
    (h : ∀ a ∈ items, ∀ env, Inv env → ∃ env1, bindT t (ι a) env = some env1 ∧ ∃ e, (b env1 S = .nx e S ∨ b env1 S = .ct e S) ∧ Inv e) (h0 : Inv env) : ∃ e, loopF t b w (items.map ι) env S = .nx e S ∧ Inv e :=
  (loopF_find ι (t := t) (b := b) Inv (fun _ => false) (fun _ => .non) hw items env (fun a ha env hI => by
    obtain ⟨env1, h1, h2⟩ := h a ha env hI
    exact ⟨env1, h1, fun h => (by cases h), fun _ => h2⟩) h0).2 (by
      rw [List.find?_eq_none]
      intro x _ h
      cases h)
/-- a for over a list of the store whose body adds to the store -/
theorem loopF_add {α : Type} (ι : α → U) {t : Tg} {b : Env → Store → Out} {w : List (Nat × List U)} {S : Store} (Inv : Env → Prop) (hw : ∀ T, okW w (S ++ T) = true) (items : List α) (env : Env)
    (h : ∀ a ∈ items, ∀ env T, Inv env → ∃ env1, bindT t (ι a) env = some env1 ∧ ∃ e T1, (b env1 (S ++ T) = .nx e (S ++ T ++ T1) ∨ b env1 (S ++ T) = .ct e (S ++ T ++ T1)) ∧ Inv e) (h0 : Inv env) (T : Store) : ∃ e T1, loopF t b w (items.map ι) env (S ++ T) = .nx e (S ++ T ++ T1) ∧ Inv e := by
  induction items generalizing env T with
  | nil => exact ⟨env, [], by rw [List.map_nil, loopF_nil (hw T), List.append_nil], h0⟩
  | cons a as ih =>
    obtain ⟨env1, h1, e, T1, h2, h3⟩ := h a List.mem_cons_self env T h0
    obtain ⟨e2, T2, h4, h5⟩ := ih e (fun x hx => h x (List.mem_cons_of_mem _ hx)) h3 (T ++ T1)
    refine ⟨e2, T1 ++ T2, ?_, h5⟩
    rw [List.map_cons, loopF_cons (hw T), h1]
    show (b env1 (S ++ T)).go _ = _
    rw [← List.append_assoc] at h4
    rcases h2 with h2 | h2 <;> rw [h2] <;> simpa [List.append_assoc] using h4
theorem loopG_pure {α β : Type} (ι : α → U) (κ : β → U) {P : Pg} {cf : Nat → List U → Store → R U} {t t1 : Tg} {own own1 : List Nat} {it1 : It} {e : E} {w : List (Nat × List U)} {env : Env} {S : Store} (B : α → List β) (g : α → β → U) (hw : ∀ acc, okW w (S ++ [.lst acc]) = true) :
    ∀ (items : List α) (acc : List U), acc.length + (items.flatMap B).length ≤ LINE →
    (∀ a ∈ items, ∀ acc, ∃ env1, bindT t (ι a) (wipeU env own) = some env1 ∧ evi P cf it1 env1 (S ++ [.lst acc]) = .val ⟨(B a).map κ, []⟩ (S ++ [.lst acc]) ∧ ∀ b ∈ B a, ∀ acc, ∃ env2, bindT t1 (κ b) (wipeU env1 own1) = some env2 ∧ ev P cf e env2 (S ++ [.lst acc]) = .val (g a b) (S ++ [.lst acc])) →
    loopG t own (fun env1 S1 => (evc P cf .none env1 S1).bind fun k S1 => if k then (evi P cf it1 env1 S1).bind fun q1 S2 => loopC t1 own1 (evc P cf .none) (ev P cf e) S.length q1.watch env1 q1.items S2 else .val () S1) w env (items.map ι) (S ++ [.lst acc]) = .val () (S ++ [.lst (acc ++ items.flatMap fun a => (B a).map (g a))])
  | [], acc, _, _ => by
    rw [List.map_nil]
    unfold loopG
    rw [hw acc]
    simp
  | a :: as, acc, hz, h => by
    obtain ⟨env1, h1, h2, h3⟩ := h a List.mem_cons_self acc
    rw [List.flatMap_cons, List.length_append] at hz
    have inner := comp_pureM κ (t := t1) (own := own1) (c := evc P cf .none) (e := ev P cf e) (w := []) (env := env1) (S := S) (fun _ => true) (g a) (fun _ => okW_nil _) (B a) acc (by omega) (fun b hb acc => by
      obtain ⟨env2, h4, h5⟩ := h3 b hb acc
      exact ⟨env2, h4, rfl, fun _ => h5⟩)
    rw [List.filter_eq_self.mpr (fun _ _ => rfl)] at inner
    have ih := loopG_pure ι κ (P := P) (cf := cf) (t := t) (t1 := t1) (own := own) (own1 := own1) (it1 := it1) (e := e) (w := w) (env := env) B g hw as (acc ++ (B a).map (g a)) (by rw [List.length_append, List.length_map]; omega) (fun a' ha' => h a' (List.mem_cons_of_mem _ ha'))
    rw [List.map_cons]
    unfold loopG
    rw [hw acc]
    simp only [if_true, h1]
    rw [show evc P cf .none env1 (S ++ [.lst acc]) = .val true (S ++ [.lst acc]) from by rw [evc]]
    simp only [bind_val, if_true, h2, inner]
    rw [ih, List.flatMap_cons, List.append_assoc]
theorem ev_comp2M {α β : Type} (ι : α → U) (κ : β → U) {P : Pg} {cf : Nat → List U → Store → R U} {t t1 : Tg} {own own1 : List Nat} {it it1 : It} {e : E} {w : List (Nat × List U)} {env : Env} {S S1 : Store} {items : List α} (hq : evi P cf it env S = .val ⟨items.map ι, w⟩ S1) (B : α → List β) (g : α → β → U) (hw : ∀ acc, okW w (S1 ++ [.lst acc]) = true) (hl : (items.flatMap B).length ≤ LINE)
    (h : ∀ a ∈ items, ∀ acc, ∃ env1, bindT t (ι a) (wipeU env own) = some env1 ∧ evi P cf it1 env1 (S1 ++ [.lst acc]) = .val ⟨(B a).map κ, []⟩ (S1 ++ [.lst acc]) ∧ ∀ b ∈ B a, ∀ acc, ∃ env2, bindT t1 (κ b) (wipeU env1 own1) = some env2 ∧ ev P cf e env2 (S1 ++ [.lst acc]) = .val (g a b) (S1 ++ [.lst acc])) :
    ev P cf (.comp2 own t it .none own1 t1 it1 .none e) env S = .val (.ref S1.length) (S1 ++ [.lst (items.flatMap fun a => (B a).map (g a))]) := by
  have := loopG_pure ι κ (P := P) (cf := cf) (t := t) (t1 := t1) (own := own) (own1 := own1) (it1 := it1) (e := e) (w := w) (env := env) (S := S1) B g hw items [] (by simpa using hl) h
  rw [ev, hq, bind_val, this]
  rfl
end PyI
set_option linter.all false
set_option autoImplicit false
set_option maxRecDepth 100000
set_option maxHeartbeats 1000000
/-! Running the small machine: texts, lists put together. -/
namespace PyI
def tx (cs : List Nat) : Str := ⟨cs.toArray⟩
@[simp] theorem tx_len (cs : List Nat) : (tx cs).length = cs.length := by
  show cs.toArray.size = _
  simp
@[simp] theorem tx_list (cs : List Nat) : (tx cs).cps.toList = cs := rfl
theorem tx_app (a b : List Nat) : tx a ++ tx b = tx (a ++ b) := by
  show (⟨a.toArray ++ b.toArray⟩ : Str) = ⟨(a ++ b).toArray⟩
  rw [List.append_toArray]
theorem tx_of (x : Str) : x = tx x.cps.toList := rfl
theorem glued_go : ∀ (cs : List Nat) (acc : Array Nat), (cs.map fun c => tx [c]).foldl (fun (acc : Array Nat) (p : Str) => acc ++ (PySem.Str.ofString "").cps ++ p.cps) acc = acc ++ cs.toArray
  | [], acc => by simp
  | c :: cs, acc => by
    rw [List.map_cons, List.foldl_cons, glued_go cs]
    have e : (PySem.Str.ofString "").cps = #[] := by decide
    rw [e]
    show acc ++ #[] ++ [c].toArray ++ cs.toArray = _
    simp
theorem glued_chars (cs : List Nat) : PySem.Builtin.Str.glued (PySem.Str.ofString "") (cs.map fun c => tx [c]) = tx cs := by
  unfold PySem.Builtin.Str.glued
  cases cs with
  | nil => rfl
  | cons c cs =>
    show (⟨(cs.map fun c => tx [c]).foldl _ (tx [c]).cps⟩ : Str) = _
    rw [glued_go]
    show (⟨[c].toArray ++ cs.toArray⟩ : Str) = ⟨(c :: cs).toArray⟩
    simp
theorem mem_sign {S : Store} (c : Nat) (L : List Nat) : memU S (.str (tx [c])) (.str (tx L)) = some (decide (c ∈ L)) := rfl
theorem asBls_map : ∀ bs : List Bool, asBls (bs.map U.bl) = some bs
  | [] => rfl
  | b :: bs => by simp only [List.map_cons, asBls, asBls_map bs]; rfl
theorem asStrs_map : ∀ bs : List Str, asStrs (bs.map U.str) = some bs
  | [] => rfl
  | b :: bs => by simp only [List.map_cons, asStrs, asStrs_map bs]; rfl
theorem all_run {S : Store} {l : Nat} {bs : List Bool} (h : S[l]? = some (.lst (bs.map .bl))) : biU .all [.ref l] S = .val (.bl (bs.all id)) S := by
  show (match (itemsU S (.ref l)).bind asBls with
    | some bs => R.val (U.bl (bs.all id)) S
    | none => .stuck) = _
  simp only [itemsU, h, Option.bind_some, asBls_map]
theorem any_run {S : Store} {l : Nat} {bs : List Bool} (h : S[l]? = some (.lst (bs.map .bl))) : biU .any [.ref l] S = .val (.bl (bs.any id)) S := by
  show (match (itemsU S (.ref l)).bind asBls with
    | some bs => R.val (U.bl (bs.any id)) S
    | none => .stuck) = _
  simp only [itemsU, h, Option.bind_some, asBls_map]
theorem join_run {S : Store} {l : Nat} {a : Str} {ys : List Str} (h : S[l]? = some (.lst (ys.map .str))) (hz : (ys.map fun y : Str => y.length).sum + ys.length * a.length ≤ LINE) : bmU .join (.str a) [.ref l] S = .val (.str (PySem.Builtin.Str.glued a ys)) S := by
  show (match (itemsU S (.ref l)).bind asStrs with
    | some ys => if (ys.map fun y : Str => y.length).sum + ys.length * a.length ≤ LINE then R.val (U.str (PySem.Builtin.Str.glued a ys)) S else .stuck
    | none => .stuck) = _
  simp only [itemsU, h, Option.bind_some, asStrs_map]
  exact if_pos hz
@[simp] theorem ty_join {S : Store} (x : Str) : tyU .join S (.str x) = true := rfl
theorem cat_run {S : Store} {l k : Nat} {us ws : List U} (h : S[l]? = some (.lst us)) (h2 : S[k]? = some (.lst ws)) (hz : us.length + ws.length ≤ LINE) : binU .add (.ref l) (.ref k) S = .val (.ref S.length) (S ++ [.lst (us ++ ws)]) := by
  simp only [binU, h, h2]
  exact newL_eq _ (by rw [List.length_append]; exact hz)
theorem rep_run {S : Store} {l : Nat} {u : U} (h : S[l]? = some (.lst [u])) (n : Int) (hn : n.natAbs < 9223372036854775808) (hz : n.toNat ≤ LINE) : binU .mul (.ref l) (.int n) S = .val (.ref S.length) (S ++ [.lst (List.replicate n.toNat u)]) := by
  have e : (List.replicate n.toNat [u]).flatten = List.replicate n.toNat u := by
    generalize n.toNat = m
    induction m with
    | zero => rfl
    | succ m ih => rw [List.replicate_succ, List.flatten_cons, ih, List.replicate_succ]; rfl
  simp only [binU, h, hn, if_true, e]
  exact newL_eq _ (by rw [List.length_replicate]; exact hz)
theorem evi_str {P : Pg} {cf : Nat → List U → Store → R U} {a : E} {env : Env} {S : Store} {cs : List Nat} (ha : ev P cf a env S = .val (.str (tx cs)) S) : evi P cf (.seq a) env S = .val ⟨cs.map fun c => .str (tx [c]), []⟩ S := by
  rw [evi, ha, bind_val]
  rfl
@[simp] theorem bi_ord {S : Store} (c : Nat) : biU .ord [.str (tx [c])] S = .val (.int c) S := rfl
end PyI
/-! ### the program in the small machine (printed by gen.py) -/
namespace Lk02
open PySem L2 PyI
def top (i : Nat) : Stmt := PySem.Challenge.pw_sillwatch_k02_text_fields.main.body.getD i (.Pass ⟨0, 0, 0, 0⟩)
def b_is_integer : Sts := (.cons (.ret (.and (.bi (.isi .int) (.cons (.var 0) .nil)) (.not (.bi (.isi .bool) (.cons (.var 0) .nil))))) .nil)
def f_is_integer : Fn := ⟨1, 1, b_is_integer⟩
def s_is_integer : Stmt := top 9
def t_is_integer : DefI := ⟨⟨("is_integer", none), "is_integer", "is_integer", defArgs s_is_integer, defBody s_is_integer, defScope s_is_integer, [], []⟩, ["value"], ["value"], f_is_integer⟩
def b_is_number : Sts := (.cons (.ret (.and (.call 0 (.cons (.var 0) .nil)) (.cmp2 .le .lt (.int 0) (.var 0) (.glo 0)))) .nil)
def f_is_number : Fn := ⟨1, 1, b_is_number⟩
def s_is_number : Stmt := top 10
def t_is_number : DefI := ⟨⟨("is_number", none), "is_number", "is_number", defArgs s_is_number, defBody s_is_number, defScope s_is_number, [], []⟩, ["value"], ["value"], f_is_number⟩
def cm_is_text_0 : E := (.comp [1] (.nm 1) (.seq (.var 0)) .none (.cmp .mem (.var 1) (.glo 2)))
def b_is_text : Sts := (.cons (.ret (.and (.cmp .le (.bi .len (.cons (.var 0) .nil)) (.glo 1)) (.bi .all (.cons cm_is_text_0 .nil)))) .nil)
def f_is_text : Fn := ⟨1, 2, b_is_text⟩
def s_is_text : Stmt := top 11
def t_is_text : DefI := ⟨⟨("is_text", none), "is_text", "is_text", defArgs s_is_text, defBody s_is_text, defScope s_is_text, [], []⟩, ["value", "sign"], ["value"], f_is_text⟩
def cm_are_octets_0 : E := (.comp [1] (.nm 1) (.seq (.var 0)) .none (.and (.call 0 (.cons (.var 1) .nil)) (.cmp2 .le .le (.int 0) (.var 1) (.int 255))))
def b_are_octets : Sts := (.cons (.ifS (.or (.not (.bi (.isi .list) (.cons (.var 0) .nil))) (.cmp .gt (.bi .len (.cons (.var 0) .nil)) (.glo 3))) (.cons (.ret (.bl false)) .nil) .nil) (.cons (.ret (.bi .all (.cons cm_are_octets_0 .nil))) .nil))
def f_are_octets : Fn := ⟨1, 2, b_are_octets⟩
def s_are_octets : Stmt := top 12
def t_are_octets : DefI := ⟨⟨("are_octets", none), "are_octets", "are_octets", defArgs s_are_octets, defBody s_are_octets, defScope s_are_octets, [], []⟩, ["value", "octet"], ["value"], f_are_octets⟩
def lp_number_octets_0 : Sts := (.cons (.exp (.bm .append (.var 2) (.cons (.bin .mod (.var 0) (.int 256)) .nil))) (.cons (.asg (.nm 0) (.bin .fdiv (.var 0) (.int 256))) .nil))
def b_number_octets : Sts := (.cons (.asg (.nm 2) (.lst .nil)) (.cons (.for_ (.nm 3) (.rng1 (.var 1)) lp_number_octets_0) (.cons (.ret (.var 2)) .nil)))
def f_number_octets : Fn := ⟨2, 4, b_number_octets⟩
def s_number_octets : Stmt := top 13
def t_number_octets : DefI := ⟨⟨("number_octets", none), "number_octets", "number_octets", defArgs s_number_octets, defBody s_number_octets, defScope s_number_octets, [], []⟩, ["value", "count", "octets", "_"], ["value", "count"], f_number_octets⟩
def b_padding : Sts := (.cons (.ret (.bin .mod (.bin .sub (.int 4) (.bin .mod (.var 0) (.int 4))) (.int 4))) .nil)
def f_padding : Fn := ⟨1, 1, b_padding⟩
def s_padding : Stmt := top 14
def t_padding : DefI := ⟨⟨("padding", none), "padding", "padding", defArgs s_padding, defBody s_padding, defScope s_padding, [], []⟩, ["count"], ["count"], f_padding⟩
def b_sign_code : Sts := (.cons (.ret (.bi .ord (.cons (.var 0) .nil))) .nil)
def f_sign_code : Fn := ⟨1, 1, b_sign_code⟩
def s_sign_code : Stmt := top 15
def t_sign_code : DefI := ⟨⟨("sign_code", none), "sign_code", "sign_code", defArgs s_sign_code, defBody s_sign_code, defScope s_sign_code, [], []⟩, ["sign"], ["sign"], f_sign_code⟩
def cm_text_octets_0 : E := (.comp [2] (.nm 2) (.seq (.var 0)) .none (.call 6 (.cons (.var 2) .nil)))
def b_text_octets : Sts := (.cons (.asg (.nm 1) (.bin .add (.bin .add (.call 4 (.cons (.bin .add (.bi .len (.cons (.var 0) .nil)) (.int 1)) (.cons (.int 4) .nil))) cm_text_octets_0) (.lst (.cons (.int 0) .nil)))) (.cons (.ret (.bin .add (.var 1) (.bin .mul (.lst (.cons (.int 0) .nil)) (.call 5 (.cons (.bin .add (.bi .len (.cons (.var 0) .nil)) (.int 1)) .nil))))) .nil))
def f_text_octets : Fn := ⟨1, 3, b_text_octets⟩
def s_text_octets : Stmt := top 16
def t_text_octets : DefI := ⟨⟨("text_octets", none), "text_octets", "text_octets", defArgs s_text_octets, defBody s_text_octets, defScope s_text_octets, [], []⟩, ["value", "octets", "sign"], ["value"], f_text_octets⟩
def b_fits_kind : Sts := (.cons (.ifS (.or (.cmp .eq (.var 0) (.str "uint")) (.cmp .eq (.var 0) (.str "maybe"))) (.cons (.ret (.call 1 (.cons (.var 1) .nil))) .nil) .nil) (.cons (.ifS (.or (.cmp .eq (.var 0) (.str "object")) (.cmp .eq (.var 0) (.str "new"))) (.cons (.ret (.and (.call 1 (.cons (.var 1) .nil)) (.cmp .gt (.var 1) (.int 0)))) .nil) .nil) (.cons (.ifS (.cmp .eq (.var 0) (.str "int")) (.cons (.ret (.and (.call 0 (.cons (.var 1) .nil)) (.cmp2 .le .lt (.bin .fdiv (.neg (.glo 0)) (.int 2)) (.var 1) (.bin .fdiv (.glo 0) (.int 2))))) .nil) .nil) (.cons (.ifS (.cmp .eq (.var 0) (.str "text")) (.cons (.ret (.and (.bi (.isi .str) (.cons (.var 1) .nil)) (.call 2 (.cons (.var 1) .nil)))) .nil) .nil) (.cons (.ifS (.cmp .eq (.var 0) (.str "octets")) (.cons (.ret (.call 3 (.cons (.var 1) .nil))) .nil) .nil) (.cons (.ifS (.or (.not (.bi (.isi .tuple) (.cons (.var 1) .nil))) (.cmp .ne (.bi .len (.cons (.var 1) .nil)) (.int 2))) (.cons (.ret (.bl false)) .nil) .nil) (.cons (.ret (.and (.bi (.isi .str) (.cons (.ix (.var 1) (.int 0)) .nil)) (.and (.call 2 (.cons (.ix (.var 1) (.int 0)) .nil)) (.and (.call 1 (.cons (.ix (.var 1) (.int 1)) .nil)) (.cmp .gt (.ix (.var 1) (.int 1)) (.int 0)))))) .nil)))))))
def f_fits_kind : Fn := ⟨2, 2, b_fits_kind⟩
def s_fits_kind : Stmt := top 17
def t_fits_kind : DefI := ⟨⟨("fits_kind", none), "fits_kind", "fits_kind", defArgs s_fits_kind, defBody s_fits_kind, defScope s_fits_kind, [], []⟩, ["kind", "value"], ["kind", "value"], f_fits_kind⟩
def b_field_octets : Sts := (.cons (.ifS (.or (.cmp .nmem (.var 0) (.glo 4)) (.not (.call 8 (.cons (.var 0) (.cons (.var 1) .nil))))) (.cons (.raise 1 .nil) .nil) .nil) (.cons (.ifS (.cmp .eq (.var 0) (.str "text")) (.cons (.ret (.call 7 (.cons (.var 1) .nil))) .nil) .nil) (.cons (.ifS (.cmp .eq (.var 0) (.str "octets")) (.cons (.ret (.bin .add (.bin .add (.call 4 (.cons (.bi .len (.cons (.var 1) .nil)) (.cons (.int 4) .nil))) (.var 1)) (.bin .mul (.lst (.cons (.int 0) .nil)) (.call 5 (.cons (.bi .len (.cons (.var 1) .nil)) .nil))))) .nil) .nil) (.cons (.ifS (.cmp .eq (.var 0) (.str "bound")) (.cons (.ret (.bin .add (.call 7 (.cons (.ix (.var 1) (.int 0)) .nil)) (.call 4 (.cons (.ix (.var 1) (.int 1)) (.cons (.int 4) .nil))))) .nil) .nil) (.cons (.ifS (.and (.cmp .eq (.var 0) (.str "int")) (.cmp .lt (.var 1) (.int 0))) (.cons (.ret (.call 4 (.cons (.bin .add (.var 1) (.glo 0)) (.cons (.int 4) .nil)))) .nil) .nil) (.cons (.ret (.call 4 (.cons (.var 1) (.cons (.int 4) .nil)))) .nil))))))
def f_field_octets : Fn := ⟨2, 2, b_field_octets⟩
def s_field_octets : Stmt := top 18
def t_field_octets : DefI := ⟨⟨("field_octets", none), "field_octets", "field_octets", defArgs s_field_octets, defBody s_field_octets, defScope s_field_octets, [], []⟩, ["kind", "value"], ["kind", "value"], f_field_octets⟩
def b__law_cell : Sts := (.cons (.asg (.nm 2) (.int 0)) (.cons (.ifS (.cmp .gt (.bi .len (.cons (.var 0) .nil)) (.int 0)) (.cons (.asg (.nm 2) (.ix (.var 0) (.bin .mod (.bi .int (.cons (.var 1) .nil)) (.bi .len (.cons (.var 0) .nil))))) .nil) .nil) (.cons (.ifS (.cmp .lt (.var 2) (.int 0)) (.cons (.asg (.nm 2) (.bin .sub (.int 1) (.bin .mul (.int 2) (.var 2)))) .nil) .nil) (.cons (.ret (.var 2)) .nil))))
def f__law_cell : Fn := ⟨2, 3, b__law_cell⟩
def s__law_cell : Stmt := top 20
def t__law_cell : DefI := ⟨⟨("_law_cell", none), "_law_cell", "_law_cell", defArgs s__law_cell, defBody s__law_cell, defScope s__law_cell, [], []⟩, ["script", "k", "cell"], ["script", "k"], f__law_cell⟩
def b__law_row : Sts := (.cons (.asg (.nm 2) (.call 10 (.cons (.var 0) (.cons (.var 1) .nil)))) (.cons (.ifS (.and (.cmp .lt (.var 1) (.bi .len (.cons (.var 0) .nil))) (.cmp .ge (.var 2) (.int 1000000000))) (.cons (.ret (.var 2)) .nil) .nil) (.cons (.asg (.nm 3) (.bin .mod (.bi .int (.cons (.bin .add (.bin .add (.bin .mul (.var 2) (.int 48271)) (.bin .mul (.var 1) (.int 69621))) (.int 12345)) .nil)) (.int 2147483647))) (.cons (.asg (.nm 4) (.bin .mod (.bi .int (.cons (.bin .add (.bin .add (.bin .mul (.var 3) (.var 3)) (.bin .mul (.int 16807) (.var 1))) (.int 7)) .nil)) (.int 2147483629))) (.cons (.ret (.bin .add (.bin .mod (.bi .int (.cons (.bin .add (.bin .mul (.var 4) (.var 4)) (.var 3)) .nil)) (.int 4294967291)) (.bin .mul (.int 4294967296) (.bin .add (.var 3) (.int 1))))) .nil)))))
def f__law_row : Fn := ⟨2, 5, b__law_row⟩
def s__law_row : Stmt := top 21
def t__law_row : DefI := ⟨⟨("_law_row", none), "_law_row", "_law_row", defArgs s__law_row, defBody s__law_row, defScope s__law_row, [], []⟩, ["script", "k", "cell", "one", "two"], ["script", "k"], f__law_row⟩
def b__law_sign : Sts := (.cons (.asg (.nm 1) (.str " !\"#$&'()*+,-./0123456789:;<=>?@ABCDEFGHIJKLMNOPQRSTUVWXYZ[\\]^_`")) (.cons (.asg (.nm 1) (.bin .add (.var 1) (.str "abcdefghijklmnopqrstuvwxyz{|}~"))) (.cons (.ret (.ix (.var 1) (.bin .mod (.bi .int (.cons (.var 0) .nil)) (.int 94)))) .nil)))
def f__law_sign : Fn := ⟨1, 2, b__law_sign⟩
def s__law_sign : Stmt := top 22
def t__law_sign : DefI := ⟨⟨("_law_sign", none), "_law_sign", "_law_sign", defArgs s__law_sign, defBody s__law_sign, defScope s__law_sign, [], []⟩, ["digit", "signs"], ["digit"], f__law_sign⟩
def lp__law_text_0 : Sts := (.cons (.exp (.bm .append (.var 2) (.cons (.call 12 (.cons (.bin .add (.bi .int (.cons (.bin .fdiv (.var 0) (.bin .add (.bin .mod (.var 3) (.int 7)) (.int 1))) .nil)) (.bin .mul (.var 3) (.bin .add (.bin .mod (.bi .int (.cons (.var 0) .nil)) (.int 93)) (.int 1)))) .nil)) .nil))) .nil)
def b__law_text : Sts := (.cons (.asg (.nm 2) (.lst .nil)) (.cons (.for_ (.nm 3) (.rng1 (.var 1)) lp__law_text_0) (.cons (.ret (.bm .join (.str "") (.cons (.var 2) .nil))) .nil)))
def f__law_text : Fn := ⟨2, 4, b__law_text⟩
def s__law_text : Stmt := top 23
def t__law_text : DefI := ⟨⟨("_law_text", none), "_law_text", "_law_text", defArgs s__law_text, defBody s__law_text, defScope s__law_text, [], []⟩, ["row", "size", "signs", "k"], ["row", "size"], f__law_text⟩
def b__law_four : Sts := (.cons (.ret (.lst (.cons (.bin .mod (.bi .int (.cons (.var 0) .nil)) (.int 256)) (.cons (.bin .mod (.bi .int (.cons (.bin .fdiv (.var 0) (.int 256)) .nil)) (.int 256)) (.cons (.bin .mod (.bi .int (.cons (.bin .fdiv (.var 0) (.int 65536)) .nil)) (.int 256)) (.cons (.bin .mod (.bi .int (.cons (.bin .fdiv (.var 0) (.int 16777216)) .nil)) (.int 256)) .nil)))))) .nil)
def f__law_four : Fn := ⟨1, 1, b__law_four⟩
def s__law_four : Stmt := top 24
def t__law_four : DefI := ⟨⟨("_law_four", none), "_law_four", "_law_four", defArgs s__law_four, defBody s__law_four, defScope s__law_four, [], []⟩, ["value"], ["value"], f__law_four⟩
def cm__law_due_0 : E := (.comp [2] (.nm 2) (.seq (.var 0)) .none (.bi .ord (.cons (.var 2) .nil)))
def wc__law_due_0 : E := (.cmp .ne (.bin .mod (.bi .int (.cons (.bi .len (.cons (.var 1) .nil)) .nil)) (.int 4)) (.int 0))
def lp__law_due_0 : Sts := (.cons (.exp (.bm .append (.var 1) (.cons (.int 0) .nil))) .nil)
def b__law_due : Sts := (.cons (.asg (.nm 1) (.bin .add (.bin .add (.call 14 (.cons (.bin .add (.bi .len (.cons (.var 0) .nil)) (.int 1)) .nil)) cm__law_due_0) (.lst (.cons (.int 0) .nil)))) (.cons (.whl wc__law_due_0 lp__law_due_0) (.cons (.ret (.var 1)) .nil)))
def f__law_due : Fn := ⟨1, 3, b__law_due⟩
def s__law_due : Stmt := top 25
def t__law_due : DefI := ⟨⟨("_law_due", none), "_law_due", "_law_due", defArgs s__law_due, defBody s__law_due, defScope s__law_due, [], []⟩, ["text", "octets", "sign"], ["text"], f__law_due⟩
def tb__law_told_0 : Sts := (.cons (.ret (.call 9 (.cons (.str "text") (.cons (.var 0) .nil)))) .nil)
def b__law_told : Sts := (.cons (.tryM tb__law_told_0 (.cons 1 (.cons (.ret .non) .nil) .nil)) .nil)
def f__law_told : Fn := ⟨1, 1, b__law_told⟩
def s__law_told : Stmt := top 26
def t__law_told : DefI := ⟨⟨("_law_told", none), "_law_told", "_law_told", defArgs s__law_told, defBody s__law_told, defScope s__law_told, [], []⟩, ["text"], ["text"], f__law_told⟩
def lp_law_0 : Sts := (.cons (.asg (.nm 2) (.call 11 (.cons (.var 0) (.cons (.var 1) .nil)))) (.cons (.asg (.nm 3) (.bin .mod (.bi .int (.cons (.var 2) .nil)) (.int 91))) (.cons (.ifS (.cmp .eq (.bin .mod (.bi .int (.cons (.bin .fdiv (.var 2) (.int 91)) .nil)) (.int 16)) (.int 0)) (.cons (.asg (.nm 3) (.bin .add (.int 998) (.bin .mod (.bi .int (.cons (.bin .fdiv (.var 2) (.int 1456)) .nil)) (.int 4)))) .nil) .nil) (.cons (.asg (.nm 4) (.call 13 (.cons (.bin .fdiv (.var 2) (.int 7)) (.cons (.var 3) .nil)))) (.cons (.ifS (.cmp .ne (.call 2 (.cons (.var 4) .nil)) (.cmp .le (.var 3) (.int 1000))) (.cons (.ret (.bl false)) .nil) .nil) (.cons (.ifS (.and (.cmp .le (.var 3) (.int 1000)) (.cmp .ne (.call 16 (.cons (.var 4) .nil)) (.call 15 (.cons (.var 4) .nil)))) (.cons (.ret (.bl false)) .nil) .nil) (.cons (.ifS (.and (.cmp .gt (.var 3) (.int 1000)) (.cmp .notN (.call 16 (.cons (.var 4) .nil)) .non)) (.cons (.ret (.bl false)) .nil) .nil) (.cons (.asg (.nm 5) (.bin .mod (.bi .int (.cons (.bin .fdiv (.var 2) (.int 13)) .nil)) (.bin .add (.var 3) (.int 1)))) (.cons (.asg (.nm 6) (.ix (.tup (.cons (.str "\t") (.cons (.str "\n") .nil))) (.bin .mod (.bi .int (.cons (.bin .fdiv (.var 2) (.int 17)) .nil)) (.int 2)))) (.cons (.asg (.nm 7) (.bin .add (.bin .add (.cut (.var 4) .none (.some (.var 5))) (.var 6)) (.cut (.var 4) (.some (.var 5)) .none))) (.cons (.ifS (.or (.call 2 (.cons (.var 7) .nil)) (.cmp .notN (.call 16 (.cons (.var 7) .nil)) .non)) (.cons (.ret (.bl false)) .nil) .nil) .nil)))))))))))
def b_law : Sts := (.cons (.for_ (.nm 1) (.rng1 (.bin .add (.bi .min (.cons (.bi .len (.cons (.var 0) .nil)) (.cons (.int 60) .nil))) (.int 3))) lp_law_0) (.cons (.ret (.bl true)) .nil))
def f_law : Fn := ⟨1, 8, b_law⟩
def s_law : Stmt := top 27
def t_law : DefI := ⟨⟨("law", none), "law", "law", defArgs s_law, defBody s_law, defScope s_law, [], []⟩, ["script", "k", "row", "size", "text", "place", "odd", "wrong"], ["script"], f_law⟩
def T : List DefI := [t_is_integer, t_is_number, t_is_text, t_are_octets, t_number_octets, t_padding, t_sign_code, t_text_octets, t_fits_kind, t_field_octets, t__law_cell, t__law_row, t__law_sign, t__law_text, t__law_four, t__law_due, t__law_told, t_law]
def gs : List (PySem.Str × Gv) := [("NUMBER_LIMIT", .int 4294967296), ("TEXT_MOST", .int 1000), ("SIGNS", .str " !\"#$&'()*+,-./0123456789:;<=>?@ABCDEFGHIJKLMNOPQRSTUVWXYZ[\\]^_`abcdefghijklmnopqrstuvwxyz{|}~"), ("OCTETS_MOST", .int 16384), ("KINDS", .tup [.inr "uint", .inr "int", .inr "text", .inr "octets", .inr "object", .inr "maybe", .inr "new", .inr "bound"])]
def G : Gc := { fnm := fnNm T, gnm := gs.map (·.1), cnm := ["DisplayError", "BadMessage"], free := ["isinstance", "int", "bool", "len", "all", "list", "range", "ord", "str", "tuple", "min"], exs := [(0, [0]), (1, [1, 0])] }
def P : Pg := { fns := [f_is_integer, f_is_number, f_is_text, f_are_octets, f_number_octets, f_padding, f_sign_code, f_text_octets, f_fits_kind, f_field_octets, f__law_cell, f__law_row, f__law_sign, f__law_text, f__law_four, f__law_due, f__law_told, f_law], glo := [U.int 4294967296, U.int 1000, U.str " !\"#$&'()*+,-./0123456789:;<=>?@ABCDEFGHIJKLMNOPQRSTUVWXYZ[\\]^_`abcdefghijklmnopqrstuvwxyz{|}~", U.int 16384, U.tup [U.str "uint", U.str "int", U.str "text", U.str "octets", U.str "object", U.str "maybe", U.str "new", U.str "bound"]], meths := [], inits := [], excs := [(0, [0]), (1, [1, 0])] }
@[simp] theorem gl_0 : P.glo[0]? = some (U.int 4294967296) := rfl
@[simp] theorem gl_1 : P.glo[1]? = some (U.int 1000) := rfl
@[simp] theorem gl_2 : P.glo[2]? = some (U.str " !\"#$&'()*+,-./0123456789:;<=>?@ABCDEFGHIJKLMNOPQRSTUVWXYZ[\\]^_`abcdefghijklmnopqrstuvwxyz{|}~") := rfl
@[simp] theorem gl_3 : P.glo[3]? = some (U.int 16384) := rfl
@[simp] theorem gl_4 : P.glo[4]? = some (U.tup [U.str "uint", U.str "int", U.str "text", U.str "octets", U.str "object", U.str "maybe", U.str "new", U.str "bound"]) := rfl
theorem at_is_integer : P.fns[0]? = some f_is_integer := rfl
theorem at_is_number : P.fns[1]? = some f_is_number := rfl
theorem at_is_text : P.fns[2]? = some f_is_text := rfl
theorem at_are_octets : P.fns[3]? = some f_are_octets := rfl
theorem at_number_octets : P.fns[4]? = some f_number_octets := rfl
theorem at_padding : P.fns[5]? = some f_padding := rfl
theorem at_sign_code : P.fns[6]? = some f_sign_code := rfl
theorem at_text_octets : P.fns[7]? = some f_text_octets := rfl
theorem at_fits_kind : P.fns[8]? = some f_fits_kind := rfl
theorem at_field_octets : P.fns[9]? = some f_field_octets := rfl
theorem at__law_cell : P.fns[10]? = some f__law_cell := rfl
theorem at__law_row : P.fns[11]? = some f__law_row := rfl
theorem at__law_sign : P.fns[12]? = some f__law_sign := rfl
theorem at__law_text : P.fns[13]? = some f__law_text := rfl
theorem at__law_four : P.fns[14]? = some f__law_four := rfl
theorem at__law_due : P.fns[15]? = some f__law_due := rfl
theorem at__law_told : P.fns[16]? = some f__law_told := rfl
theorem at_law : P.fns[17]? = some f_law := rfl
end Lk02
namespace Lk02
open PyI
@[simp] theorem ne_uint_int : (PySem.Str.ofString "uint" = PySem.Str.ofString "int") = False := eq_false (by decide)
@[simp] theorem ne_uint_text : (PySem.Str.ofString "uint" = PySem.Str.ofString "text") = False := eq_false (by decide)
@[simp] theorem ne_uint_octets : (PySem.Str.ofString "uint" = PySem.Str.ofString "octets") = False := eq_false (by decide)
@[simp] theorem ne_uint_object : (PySem.Str.ofString "uint" = PySem.Str.ofString "object") = False := eq_false (by decide)
@[simp] theorem ne_uint_maybe : (PySem.Str.ofString "uint" = PySem.Str.ofString "maybe") = False := eq_false (by decide)
@[simp] theorem ne_uint_new : (PySem.Str.ofString "uint" = PySem.Str.ofString "new") = False := eq_false (by decide)
@[simp] theorem ne_uint_bound : (PySem.Str.ofString "uint" = PySem.Str.ofString "bound") = False := eq_false (by decide)
@[simp] theorem ne_int_uint : (PySem.Str.ofString "int" = PySem.Str.ofString "uint") = False := eq_false (by decide)
@[simp] theorem ne_int_text : (PySem.Str.ofString "int" = PySem.Str.ofString "text") = False := eq_false (by decide)
@[simp] theorem ne_int_octets : (PySem.Str.ofString "int" = PySem.Str.ofString "octets") = False := eq_false (by decide)
@[simp] theorem ne_int_object : (PySem.Str.ofString "int" = PySem.Str.ofString "object") = False := eq_false (by decide)
@[simp] theorem ne_int_maybe : (PySem.Str.ofString "int" = PySem.Str.ofString "maybe") = False := eq_false (by decide)
@[simp] theorem ne_int_new : (PySem.Str.ofString "int" = PySem.Str.ofString "new") = False := eq_false (by decide)
@[simp] theorem ne_int_bound : (PySem.Str.ofString "int" = PySem.Str.ofString "bound") = False := eq_false (by decide)
@[simp] theorem ne_text_uint : (PySem.Str.ofString "text" = PySem.Str.ofString "uint") = False := eq_false (by decide)
@[simp] theorem ne_text_int : (PySem.Str.ofString "text" = PySem.Str.ofString "int") = False := eq_false (by decide)
@[simp] theorem ne_text_octets : (PySem.Str.ofString "text" = PySem.Str.ofString "octets") = False := eq_false (by decide)
@[simp] theorem ne_text_object : (PySem.Str.ofString "text" = PySem.Str.ofString "object") = False := eq_false (by decide)
@[simp] theorem ne_text_maybe : (PySem.Str.ofString "text" = PySem.Str.ofString "maybe") = False := eq_false (by decide)
@[simp] theorem ne_text_new : (PySem.Str.ofString "text" = PySem.Str.ofString "new") = False := eq_false (by decide)
@[simp] theorem ne_text_bound : (PySem.Str.ofString "text" = PySem.Str.ofString "bound") = False := eq_false (by decide)
@[simp] theorem ne_octets_uint : (PySem.Str.ofString "octets" = PySem.Str.ofString "uint") = False := eq_false (by decide)
@[simp] theorem ne_octets_int : (PySem.Str.ofString "octets" = PySem.Str.ofString "int") = False := eq_false (by decide)
@[simp] theorem ne_octets_text : (PySem.Str.ofString "octets" = PySem.Str.ofString "text") = False := eq_false (by decide)
@[simp] theorem ne_octets_object : (PySem.Str.ofString "octets" = PySem.Str.ofString "object") = False := eq_false (by decide)
@[simp] theorem ne_octets_maybe : (PySem.Str.ofString "octets" = PySem.Str.ofString "maybe") = False := eq_false (by decide)
@[simp] theorem ne_octets_new : (PySem.Str.ofString "octets" = PySem.Str.ofString "new") = False := eq_false (by decide)
@[simp] theorem ne_octets_bound : (PySem.Str.ofString "octets" = PySem.Str.ofString "bound") = False := eq_false (by decide)
@[simp] theorem ne_object_uint : (PySem.Str.ofString "object" = PySem.Str.ofString "uint") = False := eq_false (by decide)
@[simp] theorem ne_object_int : (PySem.Str.ofString "object" = PySem.Str.ofString "int") = False := eq_false (by decide)
@[simp] theorem ne_object_text : (PySem.Str.ofString "object" = PySem.Str.ofString "text") = False := eq_false (by decide)
@[simp] theorem ne_object_octets : (PySem.Str.ofString "object" = PySem.Str.ofString "octets") = False := eq_false (by decide)
@[simp] theorem ne_object_maybe : (PySem.Str.ofString "object" = PySem.Str.ofString "maybe") = False := eq_false (by decide)
@[simp] theorem ne_object_new : (PySem.Str.ofString "object" = PySem.Str.ofString "new") = False := eq_false (by decide)
@[simp] theorem ne_object_bound : (PySem.Str.ofString "object" = PySem.Str.ofString "bound") = False := eq_false (by decide)
@[simp] theorem ne_maybe_uint : (PySem.Str.ofString "maybe" = PySem.Str.ofString "uint") = False := eq_false (by decide)
@[simp] theorem ne_maybe_int : (PySem.Str.ofString "maybe" = PySem.Str.ofString "int") = False := eq_false (by decide)
@[simp] theorem ne_maybe_text : (PySem.Str.ofString "maybe" = PySem.Str.ofString "text") = False := eq_false (by decide)
@[simp] theorem ne_maybe_octets : (PySem.Str.ofString "maybe" = PySem.Str.ofString "octets") = False := eq_false (by decide)
@[simp] theorem ne_maybe_object : (PySem.Str.ofString "maybe" = PySem.Str.ofString "object") = False := eq_false (by decide)
@[simp] theorem ne_maybe_new : (PySem.Str.ofString "maybe" = PySem.Str.ofString "new") = False := eq_false (by decide)
@[simp] theorem ne_maybe_bound : (PySem.Str.ofString "maybe" = PySem.Str.ofString "bound") = False := eq_false (by decide)
@[simp] theorem ne_new_uint : (PySem.Str.ofString "new" = PySem.Str.ofString "uint") = False := eq_false (by decide)
@[simp] theorem ne_new_int : (PySem.Str.ofString "new" = PySem.Str.ofString "int") = False := eq_false (by decide)
@[simp] theorem ne_new_text : (PySem.Str.ofString "new" = PySem.Str.ofString "text") = False := eq_false (by decide)
@[simp] theorem ne_new_octets : (PySem.Str.ofString "new" = PySem.Str.ofString "octets") = False := eq_false (by decide)
@[simp] theorem ne_new_object : (PySem.Str.ofString "new" = PySem.Str.ofString "object") = False := eq_false (by decide)
@[simp] theorem ne_new_maybe : (PySem.Str.ofString "new" = PySem.Str.ofString "maybe") = False := eq_false (by decide)
@[simp] theorem ne_new_bound : (PySem.Str.ofString "new" = PySem.Str.ofString "bound") = False := eq_false (by decide)
@[simp] theorem ne_bound_uint : (PySem.Str.ofString "bound" = PySem.Str.ofString "uint") = False := eq_false (by decide)
@[simp] theorem ne_bound_int : (PySem.Str.ofString "bound" = PySem.Str.ofString "int") = False := eq_false (by decide)
@[simp] theorem ne_bound_text : (PySem.Str.ofString "bound" = PySem.Str.ofString "text") = False := eq_false (by decide)
@[simp] theorem ne_bound_octets : (PySem.Str.ofString "bound" = PySem.Str.ofString "octets") = False := eq_false (by decide)
@[simp] theorem ne_bound_object : (PySem.Str.ofString "bound" = PySem.Str.ofString "object") = False := eq_false (by decide)
@[simp] theorem ne_bound_maybe : (PySem.Str.ofString "bound" = PySem.Str.ofString "maybe") = False := eq_false (by decide)
@[simp] theorem ne_bound_new : (PySem.Str.ofString "bound" = PySem.Str.ofString "new") = False := eq_false (by decide)
def FUEL : Nat := 100
def LEVEL : Nat := 20
def shr (v : Int) : Nat → Int
  | 0 => v
  | n + 1 => shr v n / 256
def four (v : Int) : List Int := (List.range 4).map fun i => shr v i % 256
section
variable (k : Nat) (S : Store) (v : Int)
theorem c_isint : callN P FUEL (k + 1) 0 [.int v] S = .val (.bl true) S := by
  rw [call_succ at_is_integer rfl]
  simp [f_is_integer, b_is_integer, isiU]
theorem c_isnum : callN P FUEL (k + 2) 1 [.int v] S = .val (.bl (decide (0 ≤ v) && decide (v < 4294967296))) S := by
  rw [call_succ at_is_number rfl]
  by_cases h : 0 ≤ v <;> simp [f_is_number, b_is_number, c_isint, h]
theorem loop4 {b : Env → Store → Out} {t : Tg} (env0 : Env) (Inv : Nat → Env → Prop) (h0 : Inv 0 env0)
    (st : ∀ (j : Nat) (env : Env) (S' : Store), j < 4 → Inv j env → S' = S ++ [.lst (((List.range j).map fun i => shr v i % 256).map U.int)] → ∃ env1, bindT t (.int j) env = some env1 ∧ ∃ e, b env1 S' = .nx e (S ++ [.lst (((List.range (j + 1)).map fun i => shr v i % 256).map U.int)]) ∧ Inv (j + 1) e) :
    ∃ e, loopF t b [] ((List.range 4).map fun (k : Nat) => U.int k) env0 (S ++ [.lst []]) = .nx e (S ++ [.lst ((four v).map U.int)]) ∧ Inv 4 e := by
  obtain ⟨e, S1, h1, h2, h3⟩ := loop_range0 (t := t) (b := b) (m := 4) (env := env0) (S := S ++ [.lst []]) (fun j env S' => S' = S ++ [.lst (((List.range j).map fun i => shr v i % 256).map U.int)] ∧ Inv j env) ⟨rfl, h0⟩ (by
    rintro j env S' hj ⟨hS, hI⟩
    obtain ⟨env1, a, e, b, c⟩ := st j env S' hj hI hS
    exact ⟨env1, a, e, _, Or.inl b, rfl, c⟩)
  exact ⟨e, by rw [h1, h2]; rfl, h3⟩
theorem app_step (j : Nat) (hj : j < 4) : bmU .append (.ref S.length) [.int (shr v j % 256)] (S ++ [.lst (((List.range j).map fun i => shr v i % 256).map U.int)]) = .val .non (S ++ [.lst (((List.range (j + 1)).map fun i => shr v i % 256).map U.int)]) := by
  have gl := get_end S (.lst (((List.range j).map fun i => shr v i % 256).map U.int))
  have ap := append_eq (.int (shr v j % 256)) gl (by simp; omega)
  rw [set_end] at ap
  rw [ap, List.range_succ, List.map_append, List.map_append]
  rfl
theorem c_noct : callN P FUEL (k + 1) 4 [.int v, .int 4] S = .val (.ref S.length) (S ++ [.lst ((four v).map U.int)]) := by
  rw [call_succ at_number_octets rfl]
  obtain ⟨e, h1, f0, f3, rfl⟩ := loop4 S v (b := exs P (callN P FUEL k) FUEL lp_number_octets_0) (t := .nm 3) [some (.int v), some (.int 4), some (.ref S.length), none] (fun j env => ∃ f0 f3, env = [some (.int (shr v j)), f0, some (.ref S.length), f3]) ⟨_, _, rfl⟩ (by
    rintro j _ S' hj ⟨f0, f3, rfl⟩ rfl
    refine ⟨_, rfl, [some (.int (shr v (j + 1))), f0, some (.ref S.length), some (.int j)], ?_, _, _, rfl⟩
    have ap := app_step S v j hj
    have ty := ty_append (get_end S (.lst (((List.range j).map fun i => shr v i % 256).map U.int)))
    generalize S ++ [Cell.lst (((List.range j).map fun i => shr v i % 256).map U.int)] = S3 at *
    generalize S ++ [Cell.lst (((List.range (j + 1)).map fun i => shr v i % 256).map U.int)] = S4 at *
    simp [lp_number_octets_0, ty, ap, shr])
  have nl := newL_eq [] (S := S) (by simp)
  have e4 : (List.range (4 : Int).toNat).map (fun (k : Nat) => U.int k) = (List.range 4).map fun (k : Nat) => U.int k := rfl
  simp [f_number_octets, b_number_octets, nl, h1, -List.append_assoc]
end
def SG : List Nat := (PySem.Str.ofString " !\"#$&'()*+,-./0123456789:;<=>?@ABCDEFGHIJKLMNOPQRSTUVWXYZ[\\]^_`abcdefghijklmnopqrstuvwxyz{|}~").cps.toList
theorem gl_S : P.glo[2]? = some (.str (tx SG)) := rfl
theorem len_tx {S : Store} {cs : List Nat} (h : cs.length ≤ LINE) : lenU S (.str (tx cs)) = some cs.length := by
  show (if (tx cs).length ≤ LINE then some (tx cs).length else none) = _
  rw [tx_len, if_pos h]
def isT (cs : List Nat) : Bool := decide (cs.length ≤ 1000) && cs.all fun c => decide (c ∈ SG)
section
variable (k : Nat) (S : Store) (cs : List Nat)
theorem c_istext (hz : cs.length ≤ 100000) : ∃ T, callN P FUEL (k + 1) 2 [.str (tx cs)] S = .val (.bl (isT cs)) (S ++ T) := by
  rw [call_succ at_is_text rfl]
  have hL : LINE = 16777216 := rfl
  have ln := len_tx (S := S) (cs := cs) (by omega)
  unfold isT
  by_cases h : cs.length ≤ 1000
  · have q1 := evi_str (P := P) (cf := callN P FUEL k) (a := .var 0) (env := [some (.str (tx cs)), none]) (S := S) (cs := cs) rfl
    have h1 := ev_compM (fun c => U.str (tx [c])) (own := [1]) (t := .nm 1) (e := .cmp .mem (.var 1) (.glo 2)) q1 (fun c => .bl (decide (c ∈ SG))) (fun acc => okW_nil _) (by omega) (by
      intro c hc acc
      exact ⟨_, rfl, by simp [-gl_2, gl_S, mem_sign]⟩)
    rw [show cs.map (fun c => U.bl (decide (c ∈ SG))) = (cs.map fun c => decide (c ∈ SG)).map .bl by rw [List.map_map]; rfl] at h1
    have al := all_run (get_end S (.lst ((cs.map fun c => decide (c ∈ SG)).map .bl)))
    refine ⟨[.lst ((cs.map fun c => decide (c ∈ SG)).map .bl)], ?_⟩
    replace h1 : ev P (callN P FUEL k) cm_is_text_0 [some (.str (tx cs)), none] S = _ := h1
    generalize S ++ [Cell.lst ((cs.map fun c => decide (c ∈ SG)).map .bl)] = S1 at *
    have e1 : (cs.map fun c => decide (c ∈ SG)).all id = cs.all fun c => decide (c ∈ SG) := by rw [List.all_map]; rfl
    rw [e1] at al
    simp [f_is_text, b_is_text, ln, show (cs.length : Int) ≤ 1000 by omega, h, h1, al]
  · exact ⟨[], by simp [f_is_text, b_is_text, ln, show ¬ (cs.length : Int) ≤ 1000 by omega, h]⟩
def pad (n : Nat) : Nat := (4 - n % 4) % 4
theorem c_pad (n : Nat) : callN P FUEL (k + 1) 5 [.int n] S = .val (.int (pad n)) S := by
  rw [call_succ at_padding rfl]
  have : (4 - (n : Int) % 4) % 4 = (pad n : Int) := by unfold pad; omega
  simp [f_padding, b_padding, this]
theorem c_code (c : Nat) : callN P FUEL (k + 1) 6 [.str (tx [c])] S = .val (.int c) S := by
  rw [call_succ at_sign_code rfl]
  simp [f_sign_code, b_sign_code]
def body (cs : List Nat) : List Int := four ((cs.length : Int) + 1) ++ cs.map (fun (c : Nat) => (c : Int)) ++ [0]
def octs (cs : List Nat) : List Int := body cs ++ List.replicate (pad (cs.length + 1)) 0
end
end Lk02
namespace Lk02
open PyI
section
variable (k : Nat) (S : Store) (cs : List Nat)
theorem c_toct (hz : cs.length ≤ 100000) : ∃ T l, callN P FUEL (k + 2) 7 [.str (tx cs)] S = .val (.ref l) (S ++ T) ∧ (S ++ T)[l]? = some (.lst ((octs cs).map .int)) := by
  rw [call_succ at_text_octets rfl]
  have hL : LINE = 16777216 := rfl
  have ln := fun S => len_tx (S := S) (cs := cs) (by omega)
  have n4 := c_noct k S ((cs.length : Int) + 1)
  generalize hS1 : S ++ [Cell.lst ((four ((cs.length : Int) + 1)).map U.int)] = S1 at n4
  have g1 : S1[S.length]? = some (.lst ((four ((cs.length : Int) + 1)).map U.int)) := by rw [← hS1]; exact get_end _ _
  have q1 := evi_str (P := P) (cf := callN P FUEL (k + 1)) (a := .var 0) (env := [some (.str (tx cs)), none, none]) (S := S1) (cs := cs) rfl
  have h1 := ev_compM (fun c => U.str (tx [c])) (own := [2]) (t := .nm 2) (e := .call 6 (.cons (.var 2) .nil)) q1 (fun (c : Nat) => .int (c : Int)) (fun acc => okW_nil _) (by omega) (by
    intro c hc acc
    exact ⟨_, rfl, by simp [c_code]⟩)
  rw [show cs.map (fun (c : Nat) => U.int (c : Int)) = (cs.map fun (c : Nat) => (c : Int)).map .int by rw [List.map_map]; rfl] at h1
  generalize hS2 : S1 ++ [Cell.lst ((cs.map fun (c : Nat) => (c : Int)).map .int)] = S2 at h1
  replace h1 : ev P (callN P FUEL (k + 1)) cm_text_octets_0 [some (.str (tx cs)), none, none] S1 = _ := h1
  have g12 : S2[S.length]? = some (.lst ((four ((cs.length : Int) + 1)).map U.int)) := by rw [← hS2]; exact get_app g1
  have g22 : S2[S1.length]? = some (.lst ((cs.map fun (c : Nat) => (c : Int)).map .int)) := by rw [← hS2]; exact get_end _ _
  have lf : (four ((cs.length : Int) + 1)).length = 4 := rfl
  have k3 := cat_run g12 g22 (by rw [List.length_map, List.length_map, List.length_map, lf]; omega)
  rw [← List.map_append] at k3
  generalize hS3 : S2 ++ [Cell.lst ((four ((cs.length : Int) + 1) ++ cs.map fun (c : Nat) => (c : Int)).map U.int)] = S3 at k3
  have g33 : S3[S2.length]? = some (.lst ((four ((cs.length : Int) + 1) ++ cs.map fun (c : Nat) => (c : Int)).map U.int)) := by rw [← hS3]; exact get_end _ _
  have n5 := newL_eq [U.int 0] (S := S3) (by simp)
  generalize hS4 : S3 ++ [Cell.lst [U.int 0]] = S4 at n5
  have g34 : S4[S2.length]? = some (.lst ((four ((cs.length : Int) + 1) ++ cs.map fun (c : Nat) => (c : Int)).map U.int)) := by rw [← hS4]; exact get_app g33
  have g44 : S4[S3.length]? = some (.lst (([0] : List Int).map U.int)) := by rw [← hS4]; exact get_end _ _
  have k5 := cat_run g34 g44 (by simp [lf]; omega)
  rw [← List.map_append] at k5
  replace k5 : binU .add (.ref S2.length) (.ref S3.length) S4 = .val (.ref S4.length) (S4 ++ [.lst ((body cs).map .int)]) := k5
  generalize hS5 : S4 ++ [Cell.lst ((body cs).map .int)] = S5 at k5
  have g55 : S5[S4.length]? = some (.lst ((body cs).map .int)) := by rw [← hS5]; exact get_end _ _
  have n6 := newL_eq [U.int 0] (S := S5) (by simp)
  generalize hS6 : S5 ++ [Cell.lst [U.int 0]] = S6 at n6
  have g56 : S6[S4.length]? = some (.lst ((body cs).map .int)) := by rw [← hS6]; exact get_app g55
  have g66 : S6[S5.length]? = some (.lst [U.int 0]) := by rw [← hS6]; exact get_end _ _
  have pd := c_pad k S6 (cs.length + 1)
  rw [show ((cs.length + 1 : Nat) : Int) = (cs.length : Int) + 1 by omega] at pd
  have hp : pad (cs.length + 1) < 4 := by unfold pad; omega
  have k7 := rep_run g66 (pad (cs.length + 1)) (by omega) (by omega)
  rw [Int.toNat_natCast, show List.replicate (pad (cs.length + 1)) (U.int 0) = (List.replicate (pad (cs.length + 1)) (0 : Int)).map .int by simp] at k7
  generalize hS7 : S6 ++ [Cell.lst ((List.replicate (pad (cs.length + 1)) (0 : Int)).map .int)] = S7 at k7
  have g57 : S7[S4.length]? = some (.lst ((body cs).map .int)) := by rw [← hS7]; exact get_app g56
  have g77 : S7[S6.length]? = some (.lst ((List.replicate (pad (cs.length + 1)) (0 : Int)).map .int)) := by rw [← hS7]; exact get_end _ _
  have k8 := cat_run g57 g77 (by unfold body; simp [lf]; omega)
  rw [← List.map_append] at k8
  replace k8 : binU .add (.ref S4.length) (.ref S6.length) S7 = .val (.ref S7.length) (S7 ++ [.lst ((octs cs).map .int)]) := k8
  have hAll : S7 ++ [Cell.lst ((octs cs).map .int)] = S ++ ([Cell.lst ((four ((cs.length : Int) + 1)).map U.int)] ++ [Cell.lst ((cs.map fun (c : Nat) => (c : Int)).map .int)] ++ [Cell.lst ((four ((cs.length : Int) + 1) ++ cs.map fun (c : Nat) => (c : Int)).map U.int)] ++ [Cell.lst [U.int 0]] ++ [Cell.lst ((body cs).map .int)] ++ [Cell.lst [U.int 0]] ++ [Cell.lst ((List.replicate (pad (cs.length + 1)) (0 : Int)).map .int)] ++ [Cell.lst ((octs cs).map .int)]) := by
    rw [← hS7, ← hS6, ← hS5, ← hS4, ← hS3, ← hS2, ← hS1]
    simp only [List.append_assoc]
  refine ⟨_, S7.length, ?_, by rw [← hAll]; exact get_end _ _⟩
  rw [← hAll]
  clear hAll
  generalize S7 ++ [Cell.lst ((octs cs).map .int)] = S8 at *
  simp [f_text_octets, b_text_octets, ln, n4, h1, k3, n5, k5, n6, pd, k7, k8]
end
end Lk02
namespace Lk02
open PyI
section
variable (k : Nat) (S : Store) (cs : List Nat)
theorem c_lfour (v : Int) : callN P FUEL (k + 1) 14 [.int v] S = .val (.ref S.length) (S ++ [.lst ((four v).map .int)]) := by
  rw [call_succ at__law_four rfl]
  have e : four v = [v % 256, v / 256 % 256, v / 65536 % 256, v / 16777216 % 256] := by
    show [v % 256, v / 256 % 256, v / 256 / 256 % 256, v / 256 / 256 / 256 % 256] = _
    rw [show v / 256 / 256 = v / 65536 by omega, show v / 65536 / 256 = v / 16777216 by omega]
  rw [e]
  have nl := newL_eq [U.int (v % 256), .int (v / 256 % 256), .int (v / 65536 % 256), .int (v / 16777216 % 256)] (S := S) (by simp)
  simp only [List.map_cons, List.map_nil]
  generalize S ++ [Cell.lst [U.int (v % 256), .int (v / 256 % 256), .int (v / 65536 % 256), .int (v / 16777216 % 256)]] = S1 at *
  simp [f__law_four, b__law_four, nl]
theorem pad_run (e0 e2 : Option U) : ∀ (r n : Nat) (us : List U), (us.length + r) % 4 = 0 → r < 4 → r < n → us.length + r ≤ 1000000 →
    loopW (evt P (callN P FUEL k) wc__law_due_0) (exs P (callN P FUEL k) FUEL lp__law_due_0) n [e0, some (.ref S.length), e2] (S ++ [.lst us]) = .nx [e0, some (.ref S.length), e2] (S ++ [.lst (us ++ List.replicate r (.int 0))]) := by
  intro r
  induction r with
  | zero =>
    intro n us h1 h2 h3 h4
    obtain ⟨m, rfl⟩ : ∃ m, n = m + 1 := ⟨n - 1, by omega⟩
    have ln := len_lst (get_end S (.lst us))
    have hm : (us.length : Int) % 4 = 0 := by omega
    rw [List.replicate_zero, List.append_nil]
    generalize S ++ [Cell.lst us] = S1 at *
    have : evt P (callN P FUEL k) wc__law_due_0 [e0, some (.ref S.length), e2] S1 = .val false S1 := by simp [wc__law_due_0, ln, hm]
    rw [loopW, this]
    rfl
  | succ r ih =>
    intro n us h1 h2 h3 h4
    obtain ⟨m, rfl⟩ : ∃ m, n = m + 1 := ⟨n - 1, by omega⟩
    have gl := get_end S (.lst us)
    have ln := len_lst gl
    have hm : ¬ (us.length : Int) % 4 = 0 := by omega
    have hL : LINE = 16777216 := rfl
    have ap := append_eq (.int 0) gl (by omega)
    rw [set_end] at ap
    have ty := ty_append gl
    have ih' := ih m (us ++ [.int 0]) (by simp; omega) (by omega) (by omega) (by simp; omega)
    rw [List.append_assoc, show [U.int 0] ++ List.replicate r (U.int 0) = List.replicate (r + 1) (U.int 0) from rfl] at ih'
    generalize S ++ [Cell.lst us] = S1 at *
    generalize S ++ [Cell.lst (us ++ [.int 0])] = S2 at *
    have c1 : evt P (callN P FUEL k) wc__law_due_0 [e0, some (.ref S.length), e2] S1 = .val true S1 := by simp [wc__law_due_0, ln, hm]
    have b1 : exs P (callN P FUEL k) FUEL lp__law_due_0 [e0, some (.ref S.length), e2] S1 = .nx [e0, some (.ref S.length), e2] S2 := by simp [lp__law_due_0, ty, ap]
    rw [loopW, c1]
    simp only [out_val, if_true, b1]
    exact ih'
theorem c_ldue (hz : cs.length ≤ 100000) : ∃ T l, callN P FUEL (k + 2) 15 [.str (tx cs)] S = .val (.ref l) (S ++ T) ∧ (S ++ T)[l]? = some (.lst ((octs cs).map .int)) := by
  rw [call_succ at__law_due rfl]
  have hL : LINE = 16777216 := rfl
  have ln := fun S => len_tx (S := S) (cs := cs) (by omega)
  have n4 := c_lfour k S ((cs.length : Int) + 1)
  generalize hS1 : S ++ [Cell.lst ((four ((cs.length : Int) + 1)).map U.int)] = S1 at n4
  have g1 : S1[S.length]? = some (.lst ((four ((cs.length : Int) + 1)).map U.int)) := by rw [← hS1]; exact get_end _ _
  have q1 := evi_str (P := P) (cf := callN P FUEL (k + 1)) (a := .var 0) (env := [some (.str (tx cs)), none, none]) (S := S1) (cs := cs) rfl
  have h1 := ev_compM (fun c => U.str (tx [c])) (own := [2]) (t := .nm 2) (e := .bi .ord (.cons (.var 2) .nil)) q1 (fun (c : Nat) => .int (c : Int)) (fun acc => okW_nil _) (by omega) (by
    intro c hc acc
    exact ⟨_, rfl, by simp⟩)
  rw [show cs.map (fun (c : Nat) => U.int (c : Int)) = (cs.map fun (c : Nat) => (c : Int)).map .int by rw [List.map_map]; rfl] at h1
  generalize hS2 : S1 ++ [Cell.lst ((cs.map fun (c : Nat) => (c : Int)).map .int)] = S2 at h1
  replace h1 : ev P (callN P FUEL (k + 1)) cm__law_due_0 [some (.str (tx cs)), none, none] S1 = _ := h1
  have g12 : S2[S.length]? = some (.lst ((four ((cs.length : Int) + 1)).map U.int)) := by rw [← hS2]; exact get_app g1
  have g22 : S2[S1.length]? = some (.lst ((cs.map fun (c : Nat) => (c : Int)).map .int)) := by rw [← hS2]; exact get_end _ _
  have lf : (four ((cs.length : Int) + 1)).length = 4 := rfl
  have k3 := cat_run g12 g22 (by rw [List.length_map, List.length_map, List.length_map, lf]; omega)
  rw [← List.map_append] at k3
  generalize hS3 : S2 ++ [Cell.lst ((four ((cs.length : Int) + 1) ++ cs.map fun (c : Nat) => (c : Int)).map U.int)] = S3 at k3
  have g33 : S3[S2.length]? = some (.lst ((four ((cs.length : Int) + 1) ++ cs.map fun (c : Nat) => (c : Int)).map U.int)) := by rw [← hS3]; exact get_end _ _
  have n5 := newL_eq [U.int 0] (S := S3) (by simp)
  generalize hS4 : S3 ++ [Cell.lst [U.int 0]] = S4 at n5
  have g34 : S4[S2.length]? = some (.lst ((four ((cs.length : Int) + 1) ++ cs.map fun (c : Nat) => (c : Int)).map U.int)) := by rw [← hS4]; exact get_app g33
  have g44 : S4[S3.length]? = some (.lst (([0] : List Int).map U.int)) := by rw [← hS4]; exact get_end _ _
  have k5 := cat_run g34 g44 (by simp [lf]; omega)
  rw [← List.map_append] at k5
  replace k5 : binU .add (.ref S2.length) (.ref S3.length) S4 = .val (.ref S4.length) (S4 ++ [.lst ((body cs).map .int)]) := k5
  have lb : (body cs).length = cs.length + 5 := by unfold body; simp [lf]; omega
  have pr := pad_run (k + 1) S4 (some (.str (tx cs))) none (pad (cs.length + 1)) FUEL ((body cs).map .int) (by rw [List.length_map, lb]; unfold pad; omega) (by unfold pad; omega) (by unfold pad FUEL; omega) (by rw [List.length_map, lb]; unfold pad; omega)
  rw [show (body cs).map U.int ++ List.replicate (pad (cs.length + 1)) (U.int 0) = (octs cs).map .int by unfold octs; simp] at pr
  have hAll : S4 ++ [Cell.lst ((octs cs).map .int)] = S ++ ([Cell.lst ((four ((cs.length : Int) + 1)).map U.int)] ++ [Cell.lst ((cs.map fun (c : Nat) => (c : Int)).map .int)] ++ [Cell.lst ((four ((cs.length : Int) + 1) ++ cs.map fun (c : Nat) => (c : Int)).map U.int)] ++ [Cell.lst [U.int 0]] ++ [Cell.lst ((octs cs).map .int)]) := by
    rw [← hS4, ← hS3, ← hS2, ← hS1]
    simp only [List.append_assoc]
  refine ⟨_, S4.length, ?_, by rw [← hAll]; exact get_end _ _⟩
  rw [← hAll]
  clear hAll
  generalize S4 ++ [Cell.lst ((octs cs).map .int)] = S8 at *
  generalize S4 ++ [Cell.lst ((body cs).map .int)] = S5 at *
  simp [f__law_due, b__law_due, ln, n4, h1, k3, n5, k5, pr]
end
end Lk02
namespace Lk02
open PyI
section
variable (k : Nat) (S : Store) (cs : List Nat)
theorem mem_text : memU S (.str "text") (.tup [U.str "uint", U.str "int", U.str "text", U.str "octets", U.str "object", U.str "maybe", U.str "new", U.str "bound"]) = some true := by
  simp [memU, memI, itemsU, flU, eqF]
theorem c_fits (hz : cs.length ≤ 100000) : ∃ T, callN P FUEL (k + 2) 8 [.str "text", .str (tx cs)] S = .val (.bl (isT cs)) (S ++ T) := by
  rw [call_succ at_fits_kind rfl]
  obtain ⟨T, it⟩ := c_istext k S cs hz
  refine ⟨T, ?_⟩
  generalize S ++ T = S1 at *
  simp [f_fits_kind, b_fits_kind, isiU, it]
theorem c_told (hz : cs.length ≤ 100000) : (isT cs = true → ∃ T l, callN P FUEL (k + 4) 16 [.str (tx cs)] S = .val (.ref l) (S ++ T) ∧ (S ++ T)[l]? = some (.lst ((octs cs).map .int))) ∧ (isT cs = false → ∃ T, callN P FUEL (k + 4) 16 [.str (tx cs)] S = .val .non (S ++ T)) := by
  obtain ⟨T1, ft⟩ := c_fits k S cs hz
  have m := mem_text S
  have i0 : P.inits.lookup 1 = none := rfl
  have e1 : P.excs.lookup 1 = some [1, 0] := rfl
  constructor
  · intro h
    rw [h] at ft
    obtain ⟨T2, l, to, g⟩ := c_toct k (S ++ T1) cs hz
    have fo : callN P FUEL (k + 3) 9 [.str "text", .str (tx cs)] S = .val (.ref l) (S ++ T1 ++ T2) := by
      rw [call_succ at_field_octets rfl]
      generalize S ++ T1 ++ T2 = S2 at *
      generalize S ++ T1 = S1 at *
      simp [f_field_octets, b_field_octets, m, ft, to]
    refine ⟨T1 ++ T2, l, ?_, by rw [← List.append_assoc]; exact g⟩
    rw [call_succ at__law_told rfl, ← List.append_assoc]
    generalize S ++ T1 ++ T2 = S2 at *
    simp [f__law_told, b__law_told, tb__law_told_0, fo]
  · intro h
    rw [h] at ft
    have fo : callN P FUEL (k + 3) 9 [.str "text", .str (tx cs)] S = .exc 1 none (S ++ T1) := by
      rw [call_succ at_field_octets rfl]
      generalize S ++ T1 = S1 at *
      simp [f_field_octets, b_field_octets, m, ft, i0]
    refine ⟨T1, ?_⟩
    rw [call_succ at__law_told rfl]
    generalize S ++ T1 = S2 at *
    simp [f__law_told, b__law_told, tb__law_told_0, fo, e1, noXo]
theorem sg_len : SG.length = 94 := by decide +kernel
theorem sg_cat : PySem.Str.ofString " !\"#$&'()*+,-./0123456789:;<=>?@ABCDEFGHIJKLMNOPQRSTUVWXYZ[\\]^_`" ++ PySem.Str.ofString "abcdefghijklmnopqrstuvwxyz{|}~" = tx SG := by decide +kernel
def sgn (d : Int) : Nat := SG.getD (d % 94).toNat 0
theorem sgn_mem (d : Int) : sgn d ∈ SG := by
  unfold sgn
  have : (d % 94).toNat < SG.length := by rw [sg_len]; omega
  rw [List.getD_eq_getElem?_getD, List.getElem?_eq_getElem this]
  exact List.getElem_mem this
theorem c_sign (d : Int) : callN P FUEL (k + 1) 12 [.int d] S = .val (.str (tx [sgn d])) S := by
  rw [call_succ at__law_sign rfl]
  have b : binU .add (.str " !\"#$&'()*+,-./0123456789:;<=>?@ABCDEFGHIJKLMNOPQRSTUVWXYZ[\\]^_`") (.str "abcdefghijklmnopqrstuvwxyz{|}~") S = .val (.str (tx SG)) S := by
    rw [← sg_cat]
    have hz : (PySem.Str.ofString " !\"#$&'()*+,-./0123456789:;<=>?@ABCDEFGHIJKLMNOPQRSTUVWXYZ[\\]^_`").length + (PySem.Str.ofString "abcdefghijklmnopqrstuvwxyz{|}~").length ≤ LINE := by decide +kernel
    simp only [binU, hz, if_true]
  have ix : ixU S (.str (tx SG)) (.int (d % 94)) = some (.str (tx [sgn d])) := by
    have lt : (d % 94).toNat < SG.length := by rw [sg_len]; omega
    show (if (tx SG).length ≤ LINE then (atU SG (d % 94)).map _ else none) = _
    rw [if_pos (by rw [tx_len, sg_len]; decide), at_nn _ _ (by omega), List.getElem?_eq_getElem lt]
    unfold sgn
    rw [List.getD_eq_getElem?_getD, List.getElem?_eq_getElem lt]
    rfl
  simp [f__law_sign, b__law_sign, b, ix]
end
end Lk02
namespace Lk02
open PyI
def tcs (r : Int) (n : Nat) : List Nat := (List.range n).map fun (i : Nat) => sgn (r / ((i : Int) % 7 + 1) + i * (r % 93 + 1))
theorem tcs_len (r : Int) (n : Nat) : (tcs r n).length = n := by simp [tcs]
theorem tcs_mem (r : Int) (n : Nat) : ∀ c ∈ tcs r n, c ∈ SG := by
  intro c hc
  obtain ⟨i, _, rfl⟩ := List.mem_map.mp hc
  exact sgn_mem _
theorem c_text (k : Nat) (S : Store) (r : Int) (n : Nat) (hn : n ≤ 2000) : ∃ T, callN P FUEL (k + 2) 13 [.int r, .int n] S = .val (.str (tx (tcs r n))) (S ++ T) := by
  rw [call_succ at__law_text rfl]
  have hL : LINE = 16777216 := rfl
  obtain ⟨e, S1, h1, h2, f3, h3⟩ := loop_range0 (t := .nm 3) (b := exs P (callN P FUEL (k + 1)) FUEL lp__law_text_0) (m := n) (env := [some (.int r), some (.int n), some (.ref S.length), none]) (S := S ++ [.lst []])
    (fun j env S' => S' = S ++ [.lst (((tcs r j).map fun c => tx [c]).map .str)] ∧ ∃ f3, env = [some (.int r), some (.int n), some (.ref S.length), f3])
    ⟨rfl, _, rfl⟩ (by
      rintro j _ _ hj ⟨rfl, f3, rfl⟩
      refine ⟨_, rfl, ?_⟩
      have gl := get_end S (.lst (((tcs r j).map fun c => tx [c]).map .str))
      refine ⟨[some (.int r), some (.int n), some (.ref S.length), some (.int j)], S ++ [.lst (((tcs r (j + 1)).map fun c => tx [c]).map .str)], Or.inl ?_, rfl, _, rfl⟩
      have ap := append_eq (.str (tx [sgn (r / ((j : Int) % 7 + 1) + j * (r % 93 + 1))])) gl (by simp [tcs_len]; omega)
      rw [set_end] at ap
      have e3 : (((tcs r j).map fun c => tx [c]).map U.str) ++ [.str (tx [sgn (r / ((j : Int) % 7 + 1) + j * (r % 93 + 1))])] = ((tcs r (j + 1)).map fun c => tx [c]).map .str := by
        unfold tcs
        rw [List.range_succ, List.map_append, List.map_append, List.map_append]; rfl
      rw [e3] at ap
      have ty := ty_append gl
      have cs := fun S => c_sign k S (r / ((j : Int) % 7 + 1) + j * (r % 93 + 1))
      generalize S ++ [Cell.lst (((tcs r j).map fun c => tx [c]).map .str)] = S3 at *
      generalize S ++ [Cell.lst (((tcs r (j + 1)).map fun c => tx [c]).map .str)] = S4 at *
      have d1 : (0 : Int) < (j : Int) % 7 + 1 ∧ (j : Int) % 7 + 1 < 18446744073709551616 := by omega
      have m1 : j < 18446744073709551616 := by omega
      simp [lp__law_text_0, ty, ap, bin_fdivI _ _ d1, m1, cs])
  subst h3
  subst h2
  have gl := get_end S (.lst (((tcs r n).map fun c => tx [c]).map U.str))
  have jn := join_run (a := PySem.Str.ofString "") gl (by
    have e : ((tcs r n).map fun c => tx [c]).map (fun y : Str => y.length) = List.replicate n 1 := by
      rw [List.map_map]
      have : ((fun y : Str => y.length) ∘ fun c => tx [c]) = fun _ => 1 := by funext c; rfl
      rw [this, List.map_const', tcs_len]
    have e0 : (PySem.Str.ofString "").length = 0 := by decide
    rw [e, e0, List.sum_replicate_nat]
    omega)
  rw [glued_chars] at jn
  have nl := newL_eq [] (S := S) (by simp)
  refine ⟨[.lst (((tcs r n).map fun c => tx [c]).map U.str)], ?_⟩
  have hm : n < 4611686018427387904 := by omega
  generalize S ++ [Cell.lst (((tcs r n).map fun c => tx [c]).map .str)] = S4 at *
  generalize S ++ [Cell.lst []] = S3 at *
  simp [f__law_text, b__law_text, nl, hm, h1, jn]
end Lk02
namespace Lk02
open PyI
theorem isT_tcs (r : Int) (n : Nat) : isT (tcs r n) = decide (n ≤ 1000) := by
  unfold isT
  rw [tcs_len]
  have : (tcs r n).all (fun c => decide (c ∈ SG)) = true := List.all_eq_true.mpr fun c hc => decide_eq_true (tcs_mem r n c hc)
  rw [this, Bool.and_true]
theorem isT_bad (a b : List Nat) (o : Nat) (h : o = 9 ∨ o = 10) : isT (a ++ [o] ++ b) = false := by
  have n9 : ¬ o ∈ SG := by rcases h with rfl | rfl <;> decide +kernel
  unfold isT
  rw [Bool.and_eq_false_iff]
  right
  rw [List.all_append, List.all_append]
  simp [n9]
theorem cut_lo {S : Store} (cs : List Nat) (p : Nat) (hp : p ≤ cs.length) (hz : cs.length ≤ 100000) : cutE (.str (tx cs)) none (some (p : Int)) S = .val (.str (tx (cs.take p))) S := by
  show (if (tx cs).length ≤ LINE then R.val (U.str ⟨(cutU (tx cs).cps.toList none (some (p : Int))).toArray⟩) S else .stuck) = _
  rw [if_pos (by rw [tx_len]; show _ ≤ 16777216; omega)]
  have : cutU (tx cs).cps.toList none (some (p : Int)) = cs.take p := by
    rw [tx_list]
    unfold cutU sIxU
    simp only [show ¬ (p : Int) < 0 by omega, if_false, Int.toNat_natCast, List.drop_zero, Nat.sub_zero]
    rw [Nat.min_eq_left hp]
  rw [this]; rfl
theorem cut_hi {S : Store} (cs : List Nat) (p : Nat) (hp : p ≤ cs.length) (hz : cs.length ≤ 100000) : cutE (.str (tx cs)) (some (p : Int)) none S = .val (.str (tx (cs.drop p))) S := by
  show (if (tx cs).length ≤ LINE then R.val (U.str ⟨(cutU (tx cs).cps.toList (some (p : Int)) none).toArray⟩) S else .stuck) = _
  rw [if_pos (by rw [tx_len]; show _ ≤ 16777216; omega)]
  have : cutU (tx cs).cps.toList (some (p : Int)) none = cs.drop p := by
    rw [tx_list]
    unfold cutU sIxU
    simp only [show ¬ (p : Int) < 0 by omega, if_false, Int.toNat_natCast]
    rw [Nat.min_eq_left hp, List.take_of_length_le (by rw [List.length_drop]; omega)]
  rw [this]; rfl
theorem cat_tx {S : Store} (a b : List Nat) (hz : a.length + b.length ≤ 100000) : binU .add (.str (tx a)) (.str (tx b)) S = .val (.str (tx (a ++ b))) S := by
  show (if (tx a).length + (tx b).length ≤ LINE then R.val (U.str (tx a ++ tx b)) S else .stuck) = _
  rw [if_pos (by rw [tx_len, tx_len]; show _ ≤ 16777216; omega), tx_app]
end Lk02
namespace Lk02
open PyI
theorem odd_ix {S : Store} (x : Int) : ∃ o : Nat, (o = 9 ∨ o = 10) ∧ ixU S (.tup [U.str "\t", U.str "\n"]) (.int (x % 2)) = some (.str (tx [o])) := by
  have h : x % 2 = 0 ∨ x % 2 = 1 := by omega
  rcases h with h | h
  · refine ⟨9, .inl rfl, ?_⟩
    rw [h]
    rfl
  · refine ⟨10, .inr rfl, ?_⟩
    rw [h]
    rfl
def tlS : Sts := match lp_law_0 with
  | .cons _ (.cons _ (.cons _ r)) => r
  | _ => .nil
theorem tail_run (row : Int) (n : Nat) (hn : n ≤ 1001) (S : Store) (e0 e1 e4 e5 e6 e7 : Option U) :
    ∃ T f4 f5 f6 f7, exs P (callN P FUEL 19) FUEL tlS [e0, e1, some (.int row), some (.int n), e4, e5, e6, e7] S = .nx [e0, e1, some (.int row), some (.int n), f4, f5, f6, f7] (S ++ T) := by
  obtain ⟨T1, x1⟩ := c_text 17 S (row / 7) n (by omega)
  have lcs := tcs_len (row / 7) n
  have hT := isT_tcs (row / 7) n
  generalize tcs (row / 7) n = cs at *
  obtain ⟨T2, x2⟩ := c_istext 18 (S ++ T1) cs (by omega)
  obtain ⟨t1, t2⟩ := c_told 15 (S ++ T1 ++ T2) cs (by omega)
  obtain ⟨o, ho, hox⟩ := odd_ix (S := S) (row / 17)
  have pl : ∃ p : Nat, row / 13 % ((n : Int) + 1) = p ∧ p ≤ n := by
    have a := Int.emod_nonneg (row / 13) (show (n : Int) + 1 ≠ 0 by omega)
    have b := Int.emod_lt_of_pos (row / 13) (show 0 < (n : Int) + 1 by omega)
    exact ⟨(row / 13 % ((n : Int) + 1)).toNat, by omega, by omega⟩
  obtain ⟨p, hp, hpn⟩ := pl
  have cl := fun S => cut_lo (S := S) cs p (by omega) (by omega)
  have ch := fun S => cut_hi (S := S) cs p (by omega) (by omega)
  have k1 := fun S => cat_tx (S := S) (cs.take p) [o] (by simp; omega)
  have k2 := fun S => cat_tx (S := S) (cs.take p ++ [o]) (cs.drop p) (by simp; omega)
  have bad := isT_bad (cs.take p) (cs.drop p) o ho
  have lw : (cs.take p ++ [o] ++ cs.drop p).length ≤ 100000 := by simp; omega
  generalize hw : cs.take p ++ [o] ++ cs.drop p = wr at *
  have hox' : ∀ S, ixU S (.tup [U.str "\t", U.str "\n"]) (.int (row / 17 % 2)) = some (.str (tx [o])) := fun _ => hox
  have m0 : (0 : Int) < (n : Int) + 1 := by omega
  have mm := fun S => (bin_modI (S := S) (row / 13) ((n : Int) + 1) m0)
  by_cases h : n ≤ 1000
  · rw [decide_eq_true h] at hT
    rw [hT] at x2
    obtain ⟨T3, l3, x3, g3⟩ := t1 hT
    obtain ⟨T4, l4, x4, g4⟩ := c_ldue 17 (S ++ T1 ++ T2 ++ T3) cs (by omega)
    have q := eq_ints (Or.inl (get_app (T := T4) g3)) (Or.inl g4)
    simp only [decide_true] at q
    obtain ⟨T5, x5⟩ := c_istext 18 (S ++ T1 ++ T2 ++ T3 ++ T4) wr lw
    rw [bad] at x5
    obtain ⟨T6, x6⟩ := (c_told 15 (S ++ T1 ++ T2 ++ T3 ++ T4 ++ T5) wr lw).2 bad
    refine ⟨T1 ++ T2 ++ T3 ++ T4 ++ T5 ++ T6, some (.str (tx cs)), some (.int p), some (.str (tx [o])), some (.str (tx wr)), ?_⟩
    rw [← List.append_assoc, ← List.append_assoc, ← List.append_assoc, ← List.append_assoc, ← List.append_assoc]
    generalize S ++ T1 ++ T2 ++ T3 ++ T4 ++ T5 ++ T6 = S6 at *
    generalize S ++ T1 ++ T2 ++ T3 ++ T4 ++ T5 = S5 at *
    generalize S ++ T1 ++ T2 ++ T3 ++ T4 = S4 at *
    generalize S ++ T1 ++ T2 ++ T3 = S3 at *
    generalize S ++ T1 ++ T2 = S2 at *
    generalize S ++ T1 = S1 at *
    simp [tlS, lp_law_0, x1, x2, h, show (n : Int) ≤ 1000 by omega, show ¬ (1000 : Int) < n by omega, show ¬ 1000 < n by omega, x3, x4, q, mm, hp, hox', cl, ch, k1, k2, hw, x5, x6]
  · rw [decide_eq_false h] at hT
    rw [hT] at x2
    obtain ⟨T3, x3⟩ := t2 hT
    obtain ⟨T5, x5⟩ := c_istext 18 (S ++ T1 ++ T2 ++ T3) wr lw
    rw [bad] at x5
    obtain ⟨T6, x6⟩ := (c_told 15 (S ++ T1 ++ T2 ++ T3 ++ T5) wr lw).2 bad
    refine ⟨T1 ++ T2 ++ T3 ++ T5 ++ T6, some (.str (tx cs)), some (.int p), some (.str (tx [o])), some (.str (tx wr)), ?_⟩
    rw [← List.append_assoc, ← List.append_assoc, ← List.append_assoc, ← List.append_assoc]
    generalize S ++ T1 ++ T2 ++ T3 ++ T5 ++ T6 = S6 at *
    generalize S ++ T1 ++ T2 ++ T3 ++ T5 = S5 at *
    generalize S ++ T1 ++ T2 ++ T3 = S3 at *
    generalize S ++ T1 ++ T2 = S2 at *
    generalize S ++ T1 = S1 at *
    simp [tlS, lp_law_0, x1, x2, h, show ¬ (n : Int) ≤ 1000 by omega, show (1000 : Int) < n by omega, show 1000 < n by omega, x3, mm, hp, hox', cl, ch, k1, k2, hw, x5, x6]
end Lk02
namespace Lk02
open PyI
theorem lp_eq : lp_law_0 = (.cons (.asg (.nm 2) (.call 11 (.cons (.var 0) (.cons (.var 1) .nil)))) (.cons (.asg (.nm 3) (.bin .mod (.bi .int (.cons (.var 2) .nil)) (.int 91))) (.cons (.ifS (.cmp .eq (.bin .mod (.bi .int (.cons (.bin .fdiv (.var 2) (.int 91)) .nil)) (.int 16)) (.int 0)) (.cons (.asg (.nm 3) (.bin .add (.int 998) (.bin .mod (.bi .int (.cons (.bin .fdiv (.var 2) (.int 1456)) .nil)) (.int 4)))) .nil) .nil) tlS))) := rfl
theorem body_run (ns : List Int) (j : Nat) (S : Store) (hS : S[0]? = some (.fz (ns.map .int))) (e2 e3 e4 e5 e6 e7 : Option U) :
    ∃ env1 T, exs P (callN P FUEL 19) FUEL lp_law_0 [some (.ref 0), some (.int j), e2, e3, e4, e5, e6, e7] S = .nx env1 (S ++ T) ∧ ∃ f1 f2 f3 f4 f5 f6 f7, env1 = [some (.ref 0), f1, f2, f3, f4, f5, f6, f7] := by
  have r1 := row_run (P := P) (n := FUEL) (k := 17) (c := 10) (r := 11) rfl rfl hS j
  generalize rowV ns j = row at r1
  rw [lp_eq]
  by_cases h : row / 91 % 16 = 0
  · obtain ⟨n, hn, hn2⟩ : ∃ n : Nat, 998 + row / 1456 % 4 = n ∧ n ≤ 1001 := ⟨(998 + row / 1456 % 4).toNat, by omega, by omega⟩
    obtain ⟨T, f4, f5, f6, f7, t⟩ := tail_run row n hn2 S (some (.ref 0)) (some (.int j)) e4 e5 e6 e7
    exact ⟨[some (.ref 0), some (.int j), some (.int row), some (.int n), f4, f5, f6, f7], T, by simp [r1, h, hn, t], _, _, _, _, _, _, _, rfl⟩
  · obtain ⟨n, hn, hn2⟩ : ∃ n : Nat, row % 91 = n ∧ n ≤ 1001 := ⟨(row % 91).toNat, by omega, by omega⟩
    obtain ⟨T, f4, f5, f6, f7, t⟩ := tail_run row n hn2 S (some (.ref 0)) (some (.int j)) e4 e5 e6 e7
    exact ⟨[some (.ref 0), some (.int j), some (.int row), some (.int n), f4, f5, f6, f7], T, by simp [r1, h, hn, t], _, _, _, _, _, _, _, rfl⟩
theorem law_true (ns : List Int) (hl : ns.length ≤ 63) : ∃ S1, callN P FUEL LEVEL 17 [.ref 0] [.fz (ns.map .int)] = .val (.bl true) S1 := by
  have hS : ([.fz (ns.map .int)] : Store)[0]? = some (.fz (ns.map .int)) := rfl
  unfold LEVEL
  rw [call_succ at_law rfl]
  obtain ⟨e, S1, h1, h2, h3⟩ := loop_range0 (t := .nm 1) (b := exs P (callN P FUEL 19) FUEL lp_law_0) (m := (min (ns.length : Int) 60 + 3).toNat) (env := [some (.ref 0), none, none, none, none, none, none, none]) (S := [.fz (ns.map .int)])
    (fun _ env S => S[0]? = some (.fz (ns.map .int)) ∧ ∃ f1 f2 f3 f4 f5 f6 f7, env = [some (.ref 0), f1, f2, f3, f4, f5, f6, f7])
    ⟨hS, _, _, _, _, _, _, _, rfl⟩ (by
      rintro j _ S hj ⟨hS, f1, f2, f3, f4, f5, f6, f7, rfl⟩
      refine ⟨_, rfl, ?_⟩
      obtain ⟨env1, T, h1, h2⟩ := body_run ns j S hS f2 f3 f4 f5 f6 f7
      exact ⟨env1, S ++ T, Or.inl h1, get_app hS, h2⟩)
  obtain ⟨f1, f2, f3, f4, f5, f6, f7, rfl⟩ := h3
  refine ⟨S1, ?_⟩
  have ln := len_fz hS
  rw [List.length_map] at ln
  have hm : (min (ns.length : Int) 60 + 3).natAbs < 4611686018427387904 := by omega
  simp [f_law, b_law, ln, hm, h1]
end Lk02
/-! ### the text is the program; the head (printed by gen.py) -/
namespace Lk02
open PySem L2 PyI
theorem ok_is_integer : defB G t_is_integer = true := by decide +kernel
theorem ok_is_number : defB G t_is_number = true := by decide +kernel
theorem ok_is_text : defB G t_is_text = true := by decide +kernel
theorem ok_are_octets : defB G t_are_octets = true := by decide +kernel
theorem ok_number_octets : defB G t_number_octets = true := by decide +kernel
theorem ok_padding : defB G t_padding = true := by decide +kernel
theorem ok_sign_code : defB G t_sign_code = true := by decide +kernel
theorem ok_text_octets : defB G t_text_octets = true := by decide +kernel
theorem ok_fits_kind : defB G t_fits_kind = true := by decide +kernel
theorem ok_field_octets : defB G t_field_octets = true := by decide +kernel
theorem ok__law_cell : defB G t__law_cell = true := by decide +kernel
theorem ok__law_row : defB G t__law_row = true := by decide +kernel
theorem ok__law_sign : defB G t__law_sign = true := by decide +kernel
theorem ok__law_text : defB G t__law_text = true := by decide +kernel
theorem ok__law_four : defB G t__law_four = true := by decide +kernel
theorem ok__law_due : defB G t__law_due = true := by decide +kernel
theorem ok__law_told : defB G t__law_told = true := by decide +kernel
theorem ok_law : defB G t_law = true := by decide +kernel
theorem chk : T.all (defB G) = true := by
  unfold T
  simp only [List.all_cons, List.all_nil, ok_is_integer, ok_is_number, ok_is_text, ok_are_octets, ok_number_octets, ok_padding, ok_sign_code, ok_text_octets, ok_fits_kind, ok_field_octets, ok__law_cell, ok__law_row, ok__law_sign, ok__law_text, ok__law_four, ok__law_due, ok__law_told, ok_law, Bool.and_self]
theorem bd_is_integer : ∀ (kV doc pm : Value) (an : Option Addr) (cdv ct : Value) (us : List Value), us.length = t_is_integer.ps.length → bindArgs (PySem.W.fnOf t_is_integer.d.name t_is_integer.d.qual t_is_integer.d.params t_is_integer.d.body t_is_integer.d.scope .none kV doc pm an cdv ct) ⟨us, []⟩ = pure (t_is_integer.ps.zip us) :=
  fun _ _ _ _ _ _ us hl => match us, hl with | [_], _ => rfl
theorem bd_is_number : ∀ (kV doc pm : Value) (an : Option Addr) (cdv ct : Value) (us : List Value), us.length = t_is_number.ps.length → bindArgs (PySem.W.fnOf t_is_number.d.name t_is_number.d.qual t_is_number.d.params t_is_number.d.body t_is_number.d.scope .none kV doc pm an cdv ct) ⟨us, []⟩ = pure (t_is_number.ps.zip us) :=
  fun _ _ _ _ _ _ us hl => match us, hl with | [_], _ => rfl
theorem bd_is_text : ∀ (kV doc pm : Value) (an : Option Addr) (cdv ct : Value) (us : List Value), us.length = t_is_text.ps.length → bindArgs (PySem.W.fnOf t_is_text.d.name t_is_text.d.qual t_is_text.d.params t_is_text.d.body t_is_text.d.scope .none kV doc pm an cdv ct) ⟨us, []⟩ = pure (t_is_text.ps.zip us) :=
  fun _ _ _ _ _ _ us hl => match us, hl with | [_], _ => rfl
theorem bd_are_octets : ∀ (kV doc pm : Value) (an : Option Addr) (cdv ct : Value) (us : List Value), us.length = t_are_octets.ps.length → bindArgs (PySem.W.fnOf t_are_octets.d.name t_are_octets.d.qual t_are_octets.d.params t_are_octets.d.body t_are_octets.d.scope .none kV doc pm an cdv ct) ⟨us, []⟩ = pure (t_are_octets.ps.zip us) :=
  fun _ _ _ _ _ _ us hl => match us, hl with | [_], _ => rfl
theorem bd_number_octets : ∀ (kV doc pm : Value) (an : Option Addr) (cdv ct : Value) (us : List Value), us.length = t_number_octets.ps.length → bindArgs (PySem.W.fnOf t_number_octets.d.name t_number_octets.d.qual t_number_octets.d.params t_number_octets.d.body t_number_octets.d.scope .none kV doc pm an cdv ct) ⟨us, []⟩ = pure (t_number_octets.ps.zip us) :=
  fun _ _ _ _ _ _ us hl => match us, hl with | [_, _], _ => rfl
theorem bd_padding : ∀ (kV doc pm : Value) (an : Option Addr) (cdv ct : Value) (us : List Value), us.length = t_padding.ps.length → bindArgs (PySem.W.fnOf t_padding.d.name t_padding.d.qual t_padding.d.params t_padding.d.body t_padding.d.scope .none kV doc pm an cdv ct) ⟨us, []⟩ = pure (t_padding.ps.zip us) :=
  fun _ _ _ _ _ _ us hl => match us, hl with | [_], _ => rfl
theorem bd_sign_code : ∀ (kV doc pm : Value) (an : Option Addr) (cdv ct : Value) (us : List Value), us.length = t_sign_code.ps.length → bindArgs (PySem.W.fnOf t_sign_code.d.name t_sign_code.d.qual t_sign_code.d.params t_sign_code.d.body t_sign_code.d.scope .none kV doc pm an cdv ct) ⟨us, []⟩ = pure (t_sign_code.ps.zip us) :=
  fun _ _ _ _ _ _ us hl => match us, hl with | [_], _ => rfl
theorem bd_text_octets : ∀ (kV doc pm : Value) (an : Option Addr) (cdv ct : Value) (us : List Value), us.length = t_text_octets.ps.length → bindArgs (PySem.W.fnOf t_text_octets.d.name t_text_octets.d.qual t_text_octets.d.params t_text_octets.d.body t_text_octets.d.scope .none kV doc pm an cdv ct) ⟨us, []⟩ = pure (t_text_octets.ps.zip us) :=
  fun _ _ _ _ _ _ us hl => match us, hl with | [_], _ => rfl
theorem bd_fits_kind : ∀ (kV doc pm : Value) (an : Option Addr) (cdv ct : Value) (us : List Value), us.length = t_fits_kind.ps.length → bindArgs (PySem.W.fnOf t_fits_kind.d.name t_fits_kind.d.qual t_fits_kind.d.params t_fits_kind.d.body t_fits_kind.d.scope .none kV doc pm an cdv ct) ⟨us, []⟩ = pure (t_fits_kind.ps.zip us) :=
  fun _ _ _ _ _ _ us hl => match us, hl with | [_, _], _ => rfl
theorem bd_field_octets : ∀ (kV doc pm : Value) (an : Option Addr) (cdv ct : Value) (us : List Value), us.length = t_field_octets.ps.length → bindArgs (PySem.W.fnOf t_field_octets.d.name t_field_octets.d.qual t_field_octets.d.params t_field_octets.d.body t_field_octets.d.scope .none kV doc pm an cdv ct) ⟨us, []⟩ = pure (t_field_octets.ps.zip us) :=
  fun _ _ _ _ _ _ us hl => match us, hl with | [_, _], _ => rfl
theorem bd__law_cell : ∀ (kV doc pm : Value) (an : Option Addr) (cdv ct : Value) (us : List Value), us.length = t__law_cell.ps.length → bindArgs (PySem.W.fnOf t__law_cell.d.name t__law_cell.d.qual t__law_cell.d.params t__law_cell.d.body t__law_cell.d.scope .none kV doc pm an cdv ct) ⟨us, []⟩ = pure (t__law_cell.ps.zip us) :=
  fun _ _ _ _ _ _ us hl => match us, hl with | [_, _], _ => rfl
theorem bd__law_row : ∀ (kV doc pm : Value) (an : Option Addr) (cdv ct : Value) (us : List Value), us.length = t__law_row.ps.length → bindArgs (PySem.W.fnOf t__law_row.d.name t__law_row.d.qual t__law_row.d.params t__law_row.d.body t__law_row.d.scope .none kV doc pm an cdv ct) ⟨us, []⟩ = pure (t__law_row.ps.zip us) :=
  fun _ _ _ _ _ _ us hl => match us, hl with | [_, _], _ => rfl
theorem bd__law_sign : ∀ (kV doc pm : Value) (an : Option Addr) (cdv ct : Value) (us : List Value), us.length = t__law_sign.ps.length → bindArgs (PySem.W.fnOf t__law_sign.d.name t__law_sign.d.qual t__law_sign.d.params t__law_sign.d.body t__law_sign.d.scope .none kV doc pm an cdv ct) ⟨us, []⟩ = pure (t__law_sign.ps.zip us) :=
  fun _ _ _ _ _ _ us hl => match us, hl with | [_], _ => rfl
theorem bd__law_text : ∀ (kV doc pm : Value) (an : Option Addr) (cdv ct : Value) (us : List Value), us.length = t__law_text.ps.length → bindArgs (PySem.W.fnOf t__law_text.d.name t__law_text.d.qual t__law_text.d.params t__law_text.d.body t__law_text.d.scope .none kV doc pm an cdv ct) ⟨us, []⟩ = pure (t__law_text.ps.zip us) :=
  fun _ _ _ _ _ _ us hl => match us, hl with | [_, _], _ => rfl
theorem bd__law_four : ∀ (kV doc pm : Value) (an : Option Addr) (cdv ct : Value) (us : List Value), us.length = t__law_four.ps.length → bindArgs (PySem.W.fnOf t__law_four.d.name t__law_four.d.qual t__law_four.d.params t__law_four.d.body t__law_four.d.scope .none kV doc pm an cdv ct) ⟨us, []⟩ = pure (t__law_four.ps.zip us) :=
  fun _ _ _ _ _ _ us hl => match us, hl with | [_], _ => rfl
theorem bd__law_due : ∀ (kV doc pm : Value) (an : Option Addr) (cdv ct : Value) (us : List Value), us.length = t__law_due.ps.length → bindArgs (PySem.W.fnOf t__law_due.d.name t__law_due.d.qual t__law_due.d.params t__law_due.d.body t__law_due.d.scope .none kV doc pm an cdv ct) ⟨us, []⟩ = pure (t__law_due.ps.zip us) :=
  fun _ _ _ _ _ _ us hl => match us, hl with | [_], _ => rfl
theorem bd__law_told : ∀ (kV doc pm : Value) (an : Option Addr) (cdv ct : Value) (us : List Value), us.length = t__law_told.ps.length → bindArgs (PySem.W.fnOf t__law_told.d.name t__law_told.d.qual t__law_told.d.params t__law_told.d.body t__law_told.d.scope .none kV doc pm an cdv ct) ⟨us, []⟩ = pure (t__law_told.ps.zip us) :=
  fun _ _ _ _ _ _ us hl => match us, hl with | [_], _ => rfl
theorem bd_law : ∀ (kV doc pm : Value) (an : Option Addr) (cdv ct : Value) (us : List Value), us.length = t_law.ps.length → bindArgs (PySem.W.fnOf t_law.d.name t_law.d.qual t_law.d.params t_law.d.body t_law.d.scope .none kV doc pm an cdv ct) ⟨us, []⟩ = pure (t_law.ps.zip us) :=
  fun _ _ _ _ _ _ us hl => match us, hl with | [_], _ => rfl
theorem bnd : BindsAll T := ⟨bd_is_integer, bd_is_number, bd_is_text, bd_are_octets, bd_number_octets, bd_padding, bd_sign_code, bd_text_octets, bd_fits_kind, bd_field_octets, bd__law_cell, bd__law_row, bd__law_sign, bd__law_text, bd__law_four, bd__law_due, bd__law_told, bd_law, trivial⟩
def fn : List He.DefD := T.map (·.d)
def fa : List He.Fa := faOf T G ++ gs.map fun q => q.2.fct q.1
abbrev Rr : PySem.W.OpenRow := PySem.W.OpenLaw.row PySem.Challenge.rw_sillwatch_k02_text_fields
abbrev hk : PySem.W.Hook := He.hookX 4 fa fn [] [] (exOf gs)
def ob (s : PySem.W.SharedT) : He.AlX := He.obsX 4 fa fn [] [] (exOf gs) (HandSHeadRun.getT s)
theorem ob_eq (s : PySem.W.SharedT) : ob s = hk.obs s.abs := by unfold ob; rw [funext (HandSHeadRun.getT_eq s)]; rfl
theorem run (w : World) : HandSHeadRun.RunEq Rr (PySem.W.view Rr.prog [27]) hk ob 11200 [("DisplayError" : PySem.Str), ("BadMessage" : PySem.Str), ("KINDS" : PySem.Str), ("NUMBER_LIMIT" : PySem.Str), ("TEXT_MOST" : PySem.Str), ("OCTETS_MOST" : PySem.Str), ("SIGNS" : PySem.Str), ("is_integer" : PySem.Str), ("is_number" : PySem.Str), ("is_text" : PySem.Str), ("are_octets" : PySem.Str), ("number_octets" : PySem.Str), ("padding" : PySem.Str), ("sign_code" : PySem.Str), ("text_octets" : PySem.Str), ("fits_kind" : PySem.Str), ("field_octets" : PySem.Str), ("_law_cell" : PySem.Str), ("_law_row" : PySem.Str), ("_law_sign" : PySem.Str), ("_law_text" : PySem.Str), ("_law_four" : PySem.Str), ("_law_due" : PySem.Str), ("_law_told" : PySem.Str)] w := by
  intro os
  kernel_rfl
theorem facts {w : World} {K : PySem.W.Frag} {h : Heap} {mg : PySem.Str → Option Value} {f : Addr} (hlaw : ∀ ns : List Int, ns.length ≤ 63 → ∃ S1, callN P FUEL LEVEL 17 [.ref 0] [.fz (ns.map .int)] = .val (.bl true) S1) (X : K.In h) (Gx : h.Ns mainGlobals mg) (hfa : mg ("law" : PySem.Str) = some (.ref f)) (c : He.SaysX fa fn [] [] (exOf gs) w h K) :
    ∃ (fd : FuncData) (sp : Sp), (∀ (s : Shared) (v : Value), BindsTo s fd ⟨[v], []⟩ [("script", v)]) ∧ (∀ (H : Hp) (a : Addr) (ns : List Int), ns.length ≤ 63 → Only H → SqL K H a (ns.map V.int) → sp [.ref a] H (fun v _ => v = .bl true) fun _ _ _ => False) ∧
      ∀ base : Heap, K.In base → base.Ns mainGlobals mg → FnOk PySem.Challenge.pw_sillwatch_k02_text_fields w K mg base (CXw PySem.Challenge.pw_sillwatch_k02_text_fields) (2 * LEVEL) f fd ["script"] sp := by
  have hd : Hd ⟨K, [], fnAd T K, clAd G K⟩ G P T mg := hd_of (fa := fa) (fn := fn) rfl rfl rfl rfl rfl rfl chk bnd (by decide +kernel) X Gx c.t.d c.more rfl rfl
  obtain ⟨hg, _⟩ := hd.glob 17 "law" rfl
  have e := hfa.symm.trans hg
  cases e
  obtain ⟨fd, hF⟩ := hd.funs 17 t_law rfl
  obtain ⟨fd, F, _, _, F2⟩ := fn_level (prog := PySem.Challenge.pw_sillwatch_k02_text_fields) (w := w) (base := h) (n := FUEL) hd LEVEL 17 t_law rfl
  have b := FunD.bindsA (ps := ["script"]) F2 (bd_law)
  refine ⟨fd, spI ⟨K, [], fnAd T K, clAd G K⟩ (callN P FUEL LEVEL) 17, fun s v => b s [v] rfl, fun H a ns hn hO hS => law_sp hlaw H a ns hn hO hS, fun base h1 h2 => ?_⟩
  obtain ⟨fd', F', _, _, F3⟩ := fn_level (prog := PySem.Challenge.pw_sillwatch_k02_text_fields) (w := w) (base := base) (n := FUEL) hd LEVEL 17 t_law rfl
  have e := FunD.same F2 F3
  subst e
  exact FnOk.cx F' fun o H s E u s' z => ⟨w, z⟩
end Lk02
open PySem PySem.W PySem.Calls PyProof.Rows
theorem PySem.Challenge.cw_sillwatch_k02_text_fields_holds : PySem.Challenge.rw_sillwatch_k02_text_fields.Holds := by
  w_on; o_law
  refine HandSHeadRun.head_any (r := OpenLaw.row PySem.Challenge.rw_sillwatch_k02_text_fields) (q := view (OpenLaw.row PySem.Challenge.rw_sillwatch_k02_text_fields).prog [27]) (H := Lk02.hk) (ob := Lk02.ob) (M := 11200) (loose := [("DisplayError" : PySem.Str), ("BadMessage" : PySem.Str), ("KINDS" : PySem.Str), ("NUMBER_LIMIT" : PySem.Str), ("TEXT_MOST" : PySem.Str), ("OCTETS_MOST" : PySem.Str), ("SIGNS" : PySem.Str), ("is_integer" : PySem.Str), ("is_number" : PySem.Str), ("is_text" : PySem.Str), ("are_octets" : PySem.Str), ("number_octets" : PySem.Str), ("padding" : PySem.Str), ("sign_code" : PySem.Str), ("text_octets" : PySem.Str), ("fits_kind" : PySem.Str), ("field_octets" : PySem.Str), ("_law_cell" : PySem.Str), ("_law_row" : PySem.Str), ("_law_sign" : PySem.Str), ("_law_text" : PySem.Str), ("_law_four" : PySem.Str), ("_law_due" : PySem.Str), ("_law_told" : PySem.Str)]) (d := HandSHeadRun.topDef (OpenLaw.row PySem.Challenge.rw_sillwatch_k02_text_fields).prog 27) (kwd := []) Lk02.ob_eq
    (by kernel_rfl) (fun s => by kernel_rfl) Lk02.run (by kernel_rfl) (by kernel_rfl) (by kernel_rfl) (by rfl) (by first | assumption | decide +kernel) (by decide +kernel) ⟨rfl, rfl, rfl, rfl, rfl, by decide +kernel⟩ ?hw ?hc
  case hw => w_witness2
  case hc =>
    refine L2.walk_ofE (l := PySem.Challenge.rw_sillwatch_k02_text_fields) (n := 63) (k := 2 * Lk02.LEVEL) (x := "script") (CX := PyI.CXw PySem.Challenge.pw_sillwatch_k02_text_fields) rfl (by decide) (by kernel_rfl) ⟨rfl, by decide, by decide⟩ ?F (fun H s e s' z => PyI.CXw.no H s e s' z)
    intro w mg fa h Y G hmg0
    obtain ⟨K, KX, c⟩ := Y
    have hmg : mg ("law" : PySem.Str) = some (.ref fa) := by
      have e : (HandSHeadRun.topDef (OpenLaw.row PySem.Challenge.rw_sillwatch_k02_text_fields).prog 27).name = ("law" : PySem.Str) := by kernel_rfl
      rw [← e]
      exact hmg0
    obtain ⟨fd, sp, hb, hsp, hF⟩ := Lk02.facts (w := w) Lk02.law_true KX G hmg c
    exact ⟨K, fd, sp, KX, hb, hsp, hF⟩
