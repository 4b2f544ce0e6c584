import PyProof.Rows.All
import PyProof.EqLayable
import PyProof.StrCalls6
import Wide.All
import OpenK.AllK
import Wide.FinOn
import HandS.ForMost
import HandS.ForExc
import HandS.Wide
import HandS.Flow
import HandS.Deep
import HandS.IsInst
import HandS.RevRange
import HandS.Rev
import HandS.TupAny
import HandS.SortInts
import HandS.Defaults
import HandS.Text
import HandS.More
import HandS.WordsDict
import HandS.Flt
import HandS.TupLe
import HandS.WideBits
import HandS.ExcOwn
import HandS.CallLocal
import HandS.Replace
import HandS.Property
import HandS.Conv
import HandS.TryMany
import PyProof.Rows.FactsN_isinstance
import HandS.Style
import HandS.Small
import HandS.HeadHook2
import HandS.HeadHook4
import HandS.Head2
import HandS.HeadEnd
import PySem.Challenge.RW_sillwatch_k08_cutter_in_portions
set_option Elab.async false
set_option linter.all false
set_option maxRecDepth 100000
set_option maxHeartbeats 4000000
set_option linter.all false
set_option autoImplicit false
/-! A small machine for the part of Python that the given program uses: values, a store, expressions with numbered names, and what they do. -/
namespace PyI
abbrev Str := PySem.Str

/-- a value: tuples lie open, lists, dicts and instances stand in the store -/
inductive U where
  | non | bl (b : Bool) | int (i : Int) | str (x : Str) | tup (us : List U) | ref (l : Nat) | fn (f : Nat) | ty (c : Nat)

inductive Key where
  | i (k : Int) | s (x : Str)
  deriving DecidableEq

/-- what stands at a place of the store; fz: a list that nobody changes -/
inductive Cell where
  | lst (us : List U) | fz (us : List U) | ins (c : Nat) (fs : List (Nat × U)) | dct (kvs : List (Key × U)) | xd (fs : List (Nat × U))
abbrev Store := List Cell
abbrev Env := List (Option U)

inductive R (α : Type) where
  | val (a : α) (S : Store) | exc (c : Nat) (d : Option Nat) (S : Store) | stuck
inductive Out where
  | nx (env : Env) (S : Store) | rt (u : U) (S : Store) | bk (env : Env) (S : Store) | ct (env : Env) (S : Store)
  | exc (c : Nat) (d : Option Nat) (env : Env) (S : Store) | stuck

def R.bind {α β : Type} : R α → (α → Store → R β) → R β
  | .val a S, f => f a S
  | .exc c d S, _ => .exc c d S
  | .stuck, _ => .stuck
/-- an expression's answer within a statement -/
def R.out {α : Type} (env : Env) : R α → (α → Store → Out) → Out
  | .val a S, f => f a S
  | .exc c d S, _ => .exc c d env S
  | .stuck, _ => .stuck
def ofO {α : Type} (S : Store) : Option α → R α
  | some a => .val a S
  | none => .stuck

inductive Bop where
  | add | sub | mul | fdiv | mod | band
inductive Cop where
  | eq | ne | lt | le | gt | ge | isN | notN | mem | nmem | is | isnot
inductive Ty where
  | int | bool | str | list | tuple | cls (c : Nat)
inductive Bi where
  | len | int | abs | min | max | sum | all | any | list | tuple | sorted | isi (t : Ty) | ord | str | minL | sortedSet | dictOf | rvl
inductive Bm where
  | append | extend | pop | popAt | index | insert | join | get | get2 | dpop | dpop2 | remove

inductive Tg where
  | nm (i : Nat) | tp (ts : List Nat)

mutual
inductive E where
  | var (i : Nat) | int (i : Int) | str (s : Str) | bl (b : Bool) | non
  | glo (g : Nat) | fnv (f : Nat)
  | bin (o : Bop) (a b : E) | neg (a : E)
  | cmp (o : Cop) (a b : E) | cmp2 (o p : Cop) (a b c : E)
  | and (a b : E) | or (a b : E) | not (a : E) | ife (c a b : E)
  | tup (es : Es) | lst (es : Es)
  | ix (a b : E) | cut (a : E) (lo hi : Eo)
  | fld (a : E) (f : Nat)
  | call (f : Nat) (es : Es) | callv (x : Nat) (es : Es) | meth (m : Nat) (o : E) (es : Es) | mk (c : Nat) (es : Es)
  | bi (b : Bi) (es : Es) | bm (b : Bm) (o : E) (es : Es)
  | comp (own : List Nat) (t : Tg) (it : It) (c : Eo) (e : E)
  | comp2 (own : List Nat) (t : Tg) (it : It) (c : Eo) (own1 : List Nat) (t1 : Tg) (it1 : It) (c1 : Eo) (e : E)
  | dict0
  | mov (i : Nat)
  | stk
  | dctL (es : Es)
  | esc (i : Nat) (q a b c d : Str)
inductive Es where
  | nil | cons (e : E) (r : Es)
inductive Eo where
  | none | some (e : E)
inductive It where
  | seq (e : E) | rng1 (e : E) | rng2 (a b : E) | enum (e : E) | zip (a b : E) | rev (e : E) | chars (e : E) | rrng1 (e : E)
end

mutual
inductive St where
  | asg (t : Tg) (e : E) | setf (o : E) (f : Nat) (e : E) | seti (o i e : E)
  | aug (i : Nat) (o : Bop) (e : E) | augf (o : E) (f : Nat) (p : Bop) (e : E)
  | exp (e : E) | ret (e : E) | retN
  | ifS (c : E) (a b : Sts) | whl (c : E) (b : Sts) | for_ (t : Tg) (it : It) (b : Sts)
  | brk | cnt | pass
  | raise (c : Nat) (es : Es) | tryM (b : Sts) (hs : Hs) | tryAs (b : Sts) (c : Nat) (i : Nat) (h : Sts)
  | del (o i : E)
  | stk | kill (ks : List Nat)
inductive Sts where
  | nil | cons (s : St) (r : Sts)
/-- except clauses -/
inductive Hs where
  | nil | cons (c : Nat) (h : Sts) (r : Hs)
end

/-- how an argument is handed over (asked by the pure machine alone) -/
inductive Md where
  | kp | ln | mt
  deriving DecidableEq
structure Fn where
  np : Nat
  nl : Nat
  body : Sts
  md : List Md := []
/-- the program: its functions, its constants, its methods (class, name, function), its constructors, its exceptions (class, ancestors) -/
structure Pg where
  fns : List Fn
  glo : List U
  meths : List ((Nat × Nat) × Nat)
  inits : List (Nat × Nat)
  excs : List (Nat × List Nat)
  flds : List (Nat × Nat) := []

/-! ### operations -/
abbrev LINE : Nat := 16777216
def seqO {α : Type} : List (Option α) → Option (List α)
  | [] => some []
  | none :: _ => none
  | some a :: r => (seqO r).map (a :: ·)
/-- plain data, to a depth -/
def datU (S : Store) : Nat → U → Option PySem.PyData
  | 0, u => match u with
    | .non => some .none
    | .bl b => some (.bool b)
    | .int i => some (.int i)
    | .str x => if PySem.PyData.strOk x then some (.str x) else none
    | _ => none
  | n + 1, u => match u with
    | .non => some .none
    | .bl b => some (.bool b)
    | .int i => some (.int i)
    | .str x => if PySem.PyData.strOk x then some (.str x) else none
    | .tup us => (seqO (us.map (datU S n))).map .tuple
    | .ref l => match S[l]? with
      | some (.lst us) => (seqO (us.map (datU S n))).map .list
      | some (.fz us) => (seqO (us.map (datU S n))).map .list
      | _ => none
    | _ => none
abbrev DEPTH : Nat := 20
def eqD (S : Store) (u w : U) : Option Bool := match datU S DEPTH u, datU S DEPTH w with
  | some d, some e => some (PySem.PyData.eqv d e)
  | _, _ => none
def eqU (S : Store) : U → U → Option Bool
  | .int i, .int j => some (decide (i = j))
  | .str x, .str y => some (decide (x = y))
  | .str _, .non => some false
  | .non, .str _ => some false
  | u, w => eqD S u w
/-- the items of a list or a tuple -/
def itemsU (S : Store) : U → Option (List U)
  | .tup us => some us
  | .ref l => match S[l]? with
    | some (.lst us) => some us
    | some (.fz us) => some us
    | _ => none
  | _ => none
def truU (S : Store) : U → Option Bool
  | .non => some false
  | .bl b => some b
  | .int i => some (i != 0)
  | .str x => if x.length ≤ LINE then some (x.length != 0) else none
  | .tup us => some (!us.isEmpty)
  | .ref l => match S[l]? with
    | some (.lst us) => some (!us.isEmpty)
    | some (.fz us) => some (!us.isEmpty)
    | some (.dct kvs) => some (!kvs.isEmpty)
    | _ => none
  | _ => none
def newC (c : Cell) (S : Store) : R U := .val (.ref S.length) (S ++ [c])
def newL (us : List U) (S : Store) : R U := if us.length ≤ LINE then newC (.lst us) S else .stuck
/-- a text, written again and again -/
def repS (x : Str) (k : Int) : Str := ⟨(List.replicate k.toNat x.cps.toList).flatten.toArray⟩
def binU : Bop → U → U → Store → R U
  | .add, .int i, .int j, S => .val (.int (i + j)) S
  | .add, .str x, .str y, S => if x.length + y.length ≤ LINE then .val (.str (x ++ y)) S else .stuck
  | .add, .tup us, .tup ws, S => if us.length + ws.length ≤ LINE then .val (.tup (us ++ ws)) S else .stuck
  | .add, .ref l, .ref k, S => match S[l]?, S[k]? with
    | some (.lst us), some (.lst ws) => newL (us ++ ws) S
    | _, _ => .stuck
  | .sub, .int i, .int j, S => .val (.int (i - j)) S
  | .mul, .int i, .int j, S => if i.natAbs < 18446744073709551616 ∨ j.natAbs < 18446744073709551616 then .val (.int (i * j)) S else .stuck
  | .mul, .str x, .int k, S => if 1 < k ∧ 0 < x.length ∧ x.length * k.toNat ≤ LINE then .val (.str (repS x k)) S else .stuck
  | .mul, .ref l, .int k, S => match S[l]? with
    | some (.lst us) => if k.natAbs < 9223372036854775808 then newL (List.replicate k.toNat us).flatten S else .stuck
    | _ => .stuck
  | .fdiv, .int i, .int j, S => if 0 < j ∧ j < 18446744073709551616 then .val (.int (i / j)) S else .stuck
  | .mod, .int i, .int j, S => if 0 < j then .val (.int (i % j)) S else .stuck
  | .band, .int i, .int j, S => if j = 255 then .val (.int (i % 256)) S else .stuck
  | _, _, _, _ => .stuck
/-- flat values, and how they are compared -/
def flU : U → Bool
  | .non => true
  | .bl _ => true
  | .int _ => true
  | .str _ => true
  | _ => false
def eqF : U → U → Bool
  | .non, .non => true
  | .bl a, .bl b => a == b
  | .bl a, .int b => (if a then 1 else 0) == b
  | .int a, .bl b => a == (if b then 1 else 0)
  | .int a, .int b => a == b
  | .str a, .str b => a == b
  | _, _ => false
def keyU : U → Option Key
  | .int i => some (.i i)
  | .str x => some (.s x)
  | _ => none
def keyO : Key → U
  | .i k => .int k
  | .s x => .str x
def getK {α : Type} (k : Key) (kvs : List (Key × α)) : Option α := (kvs.find? fun p => decide (p.1 = k)).map (·.2)
def putKV {α : Type} (k : Key) (u : α) (kvs : List (Key × α)) : List (Key × α) := if kvs.any (fun p => decide (p.1 = k)) then kvs.map (fun p => if p.1 = k then (p.1, u) else p) else kvs ++ [(k, u)]
def dropKV {α : Type} (k : Key) (kvs : List (Key × α)) : List (Key × α) := kvs.filter fun p => decide (p.1 ≠ k)
def mergeKV {α : Type} (kvs : List (Key × α)) : List (Key × α) := kvs.foldl (fun acc p => putKV p.1 p.2 acc) []
def pairsU : List U → Option (List (Key × U))
  | [] => some []
  | k :: v :: r => match keyU k, pairsU r with
    | some q, some kvs => some ((q, v) :: kvs)
    | _, _ => none
  | _ => none
/-- the entries of a dict -/
def dctU (S : Store) : U → Option (List (Key × U))
  | .ref l => match S[l]? with
    | some (.dct kvs) => some kvs
    | _ => none
  | _ => none
/-- in a dict -/
def memD (S : Store) (x y : U) : Option Bool := match dctU S y, keyU x with
  | some kvs, some k => some (getK k kvs).isSome
  | _, _ => none
def memI (S : Store) (x y : U) : Option Bool := match itemsU S y with
  | some us => if flU x = true ∧ us.all flU = true then some (us.any fun z => eqF z x) else match y with
    | .ref _ => match datU S DEPTH x, datU S DEPTH y with
      | some d, some (.list ds) => some (ds.any fun z => PySem.PyData.eqv z d)
      | _, _ => none
    | _ => none
  | none => none
def memU (S : Store) : U → U → Option Bool
  | .str a, .str b => match a.cps.toList with
    | [c] => some (decide (c ∈ b.cps.toList))
    | _ => none
  | x, y => match dctU S y with
    | some _ => memD S x y
    | none => memI S x y
def cmpU (S : Store) : Cop → U → U → Option Bool
  | .eq, x, y => eqU S x y
  | .ne, x, y => (eqU S x y).map (!·)
  | .lt, .int i, .int j => some (decide (i < j))
  | .le, .int i, .int j => some (decide (i ≤ j))
  | .gt, .int i, .int j => some (decide (j < i))
  | .ge, .int i, .int j => some (decide (j ≤ i))
  | .isN, .non, .non => some true
  | .isN, .fn _, _ => none
  | .isN, .ty _, _ => none
  | .isN, _, .non => some false
  | .notN, .non, .non => some false
  | .notN, .fn _, _ => none
  | .notN, .ty _, _ => none
  | .notN, _, .non => some true
  | .mem, x, y => memU S x y
  | .nmem, x, y => (memU S x y).map (!·)
  | .is, .bl a, .bl b => some (decide (a = b))
  | .isnot, .bl a, .bl b => some (!decide (a = b))
  | _, _, _ => none
/-- an index, of either sign -/
def atU {α : Type} (xs : List α) (i : Int) : Option α := if 0 ≤ i then (if i < xs.length then xs[i.toNat]? else none) else if -(xs.length : Int) ≤ i then xs[(i + xs.length).toNat]? else none
def ixU (S : Store) : U → U → Option U
  | .str x, .int i => if x.length ≤ LINE then (atU x.cps.toList i).map fun c => .str ⟨#[c]⟩ else none
  | .ref l, k => match S[l]? with
    | some (.lst us) => match k with
      | .int i => atU us i
      | _ => none
    | some (.fz us) => match k with
      | .int i => atU us i
      | _ => none
    | some (.dct kvs) => match keyU k with
      | some q => getK q kvs
      | none => none
    | _ => none
  | .tup us, .int i => atU us i
  | _, _ => none
/-- an end of a slice, brought into the line -/
def sIxU (n d : Nat) : Option Int → Nat
  | none => d
  | some v => if v < 0 then (v + (n : Int)).toNat else min v.toNat n
def cutU {α : Type} (xs : List α) (lo hi : Option Int) : List α := (xs.drop (sIxU xs.length 0 lo)).take (sIxU xs.length xs.length hi - sIxU xs.length 0 lo)
def cutE (x : U) (lo hi : Option Int) (S : Store) : R U := match x with
  | .str x => if x.length ≤ LINE then .val (.str ⟨(cutU x.cps.toList lo hi).toArray⟩) S else .stuck
  | .tup us => .val (.tup (cutU us lo hi)) S
  | .ref l => match S[l]? with
    | some (.lst us) => newC (.lst (cutU us lo hi)) S
    | some (.fz us) => newC (.lst (cutU us lo hi)) S
    | _ => .stuck
  | _ => .stuck
def asInts : List U → Option (List Int)
  | [] => some []
  | .int i :: us => (asInts us).map (i :: ·)
  | _ :: _ => none
def asBls : List U → Option (List Bool)
  | [] => some []
  | .bl b :: us => (asBls us).map (b :: ·)
  | _ :: _ => none
def asStrs : List U → Option (List Str)
  | [] => some []
  | .str b :: us => (asStrs us).map (b :: ·)
  | _ :: _ => none
def sortI (ns : List Int) : List Int := ns.mergeSort (fun a b => decide (a ≤ b))
/-- texts, sorted by their signs -/
def leS (a b : Str) : Bool := !decide (b.cps.toList < a.cps.toList)
def sortS (xs : List Str) : List Str := xs.mergeSort leS
def lenU (S : Store) : U → Option Nat
  | .str x => if x.length ≤ LINE then some x.length else none
  | .tup us => some us.length
  | .ref l => match S[l]? with
    | some (.lst us) => some us.length
    | some (.fz us) => some us.length
    | some (.dct kvs) => some kvs.length
    | _ => none
  | _ => none
def isiU (S : Store) : U → Ty → Option Bool
  | .int _, .int => some true
  | .bl _, .int => some true
  | .str _, .int => some false
  | .non, .int => some false
  | .tup _, .int => some false
  | .bl _, .bool => some true
  | .int _, .bool => some false
  | .str _, .bool => some false
  | .non, .bool => some false
  | .tup _, .bool => some false
  | .str _, .str => some true
  | .int _, .str => some false
  | .non, .str => some false
  | .tup _, .str => some false
  | .bl _, .str => some false
  | .tup _, .tuple => some true
  | .int _, .tuple => some false
  | .str _, .tuple => some false
  | .non, .tuple => some false
  | .bl _, .tuple => some false
  | .tup _, .list => some false
  | .int _, .list => some false
  | .str _, .list => some false
  | .non, .list => some false
  | .bl _, .list => some false
  | .ref l, t => match S[l]?, t with
    | some (.lst _), .list => some true
    | some (.lst _), .int => some false
    | some (.lst _), .bool => some false
    | some (.lst _), .str => some false
    | some (.lst _), .tuple => some false
    | _, _ => none
  | _, _ => none
def biU : Bi → List U → Store → R U
  | .len, [x], S => ofO S ((lenU S x).map fun (n : Nat) => U.int (n : Int))
  | .int, [.int i], S => .val (.int i) S
  | .int, [.bl b], S => .val (.int (if b then 1 else 0)) S
  | .abs, [.int i], S => .val (.int (if i < 0 then -i else i)) S
  | .min, [.int i, .int j], S => .val (.int (if j < i then j else i)) S
  | .max, [.int i, .int j], S => .val (.int (if j > i then j else i)) S
  | .max, [.int i, .int j, .int k], S => .val (.int (if (if i < j then j else i) < k then k else (if i < j then j else i))) S
  | .minL, [.ref l], S => match ((itemsU S (.ref l)).bind asInts).bind List.min? with
    | some m => .val (.int m) S
    | none => .stuck
  | .sum, [.ref l], S => match (itemsU S (.ref l)).bind asInts with
    | some ns => .val (.int ns.sum) S
    | none => .stuck
  | .all, [.ref l], S => match (itemsU S (.ref l)).bind asBls with
    | some bs => .val (.bl (bs.all id)) S
    | none => .stuck
  | .any, [.ref l], S => match (itemsU S (.ref l)).bind asBls with
    | some bs => .val (.bl (bs.any id)) S
    | none => .stuck
  | .list, [x], S => match itemsU S x with
    | some us => newC (.lst us) S
    | none => match dctU S x with
      | some kvs => newC (.lst (kvs.map fun p => keyO p.1)) S
      | none => .stuck
  | .dictOf, [x], S => match dctU S x with
    | some kvs => newC (.dct kvs) S
    | none => .stuck
  | .tuple, [.tup us], S => .val (.tup us) S
  | .tuple, [.ref l], S => match itemsU S (.ref l) with
    | some us => .val (.tup us) S
    | none => .stuck
  | .sorted, [.ref l], S => match (itemsU S (.ref l)).bind asInts with
    | some ns => newC (.lst ((sortI ns).map .int)) S
    | none => match (itemsU S (.ref l)).bind asStrs with
      | some xs => if xs.length < 64 then newC (.lst ((sortS xs).map .str)) S else .stuck
      | none => .stuck
  | .isi t, [x], S => ofO S ((isiU S x t).map .bl)
  | .ord, [.str x], S => match x.cps.toList with
    | [c] => .val (.int c) S
    | _ => .stuck
  | .str, [.int i], S => if i.natAbs.log2 < 1920 then .val (.str (PySem.Str.ofString (toString i))) S else .stuck
  | .rvl, [.ref l], S => match itemsU S (.ref l) with
    | some us => newC (.lst us.reverse) S
    | none => .stuck
  | _, _, _ => .stuck
/-- q + x.replace(a, b).replace(c, d) -/
def escS (q a b c d x : Str) : Option Str :=
  if a ≠ b ∧ c ≠ d ∧ x.length + (x.length + 1) * b.length ≤ 16777216 ∧ (PySem.Txt.replace x a b).length + ((PySem.Txt.replace x a b).length + 1) * d.length ≤ 16777216 ∧ q.length + (PySem.Txt.replace (PySem.Txt.replace x a b) c d).length ≤ 16777216 then some (q ++ PySem.Txt.replace (PySem.Txt.replace x a b) c d) else none
/-- a method's receiver -/
def tyU (b : Bm) (S : Store) (x : U) : Bool := match b, x with
  | .append, .ref l => match S[l]? with
    | some (.lst _) => true
    | _ => false
  | .extend, .ref l => match S[l]? with
    | some (.lst _) => true
    | _ => false
  | .pop, .ref l => match S[l]? with
    | some (.lst _) => true
    | _ => false
  | .popAt, .ref l => match S[l]? with
    | some (.lst _) => true
    | _ => false
  | .insert, .ref l => match S[l]? with
    | some (.lst _) => true
    | _ => false
  | .index, .ref l => match S[l]? with
    | some (.lst _) => true
    | _ => false
  | .join, .str _ => true
  | .get, x => (dctU S x).isSome
  | .get2, x => (dctU S x).isSome
  | .dpop, x => (dctU S x).isSome
  | .dpop2, x => (dctU S x).isSome
  | _, _ => false
def bmU : Bm → U → List U → Store → R U
  | .append, .ref l, [u], S => match S[l]? with
    | some (.lst us) => if us.length < LINE then .val .non (S.set l (.lst (us ++ [u]))) else .stuck
    | _ => .stuck
  | .extend, .ref l, [.ref k], S => match S[l]?, S[k]? with
    | some (.lst us), some (.lst ws) => if us.length + ws.length ≤ LINE then .val .non (S.set l (.lst (us ++ ws))) else .stuck
    | _, _ => .stuck
  | .pop, .ref l, [], S => match S[l]? with
    | some (.lst us) => match us.getLast? with
      | some u => .val u (S.set l (.lst us.dropLast))
      | none => .stuck
    | _ => .stuck
  | .popAt, .ref l, [.int i], S => match S[l]? with
    | some (.lst us) => if 0 ≤ i ∧ i < 9223372036854775808 then (match us[i.toNat]? with
      | some u => .val u (S.set l (.lst (us.eraseIdx i.toNat)))
      | none => .stuck) else .stuck
    | _ => .stuck
  | .insert, .ref l, [.int i, u], S => match S[l]? with
    | some (.lst us) => if us.length < LINE ∧ 0 ≤ i ∧ i < 9223372036854775808 then .val .non (S.set l (.lst (us.take i.toNat ++ [u] ++ us.drop i.toNat))) else .stuck
    | _ => .stuck
  | .index, .ref l, [u], S => match S[l]? with
    | some (.lst us) => if flU u = true ∧ us.all flU = true then (match us.findIdx? (fun z => eqF z u) with
      | some j => .val (.int (j : Int)) S
      | none => .stuck) else .stuck
    | _ => .stuck
  | .join, .str a, [.ref l], S => match (itemsU S (.ref l)).bind asStrs with
    | some ys => if (ys.map (·.length)).sum + ys.length * a.length ≤ LINE then .val (.str (PySem.Builtin.Str.glued a ys)) S else .stuck
    | none => .stuck
  | .get, .ref l, [y], S => match S[l]?, keyU y with
    | some (.dct kvs), some k => .val ((getK k kvs).getD .non) S
    | _, _ => .stuck
  | .get2, .ref l, [y, z], S => match S[l]?, keyU y with
    | some (.dct kvs), some k => .val ((getK k kvs).getD z) S
    | _, _ => .stuck
  | .dpop, .ref l, [y], S => match S[l]?, keyU y with
    | some (.dct kvs), some k => match getK k kvs with
      | some u => .val u (S.set l (.dct (dropKV k kvs)))
      | none => .stuck
    | _, _ => .stuck
  | .dpop2, .ref l, [y, z], S => match S[l]?, keyU y with
    | some (.dct kvs), some k => match getK k kvs with
      | some u => .val u (S.set l (.dct (dropKV k kvs)))
      | none => .val z S
    | _, _ => .stuck
  | _, _, _, _ => .stuck

/-! ### names, loops -/
def bindT : Tg → U → Env → Option Env
  | .nm i, u, env => some (env.set i (some u))
  | .tp ts, .tup us, env => if ts.length = us.length then some ((ts.zip us).foldl (fun e p => e.set p.1 (some p.2)) env) else none
  | _, _, _ => none
def wipeU (env : Env) : List Nat → Env
  | [] => env
  | v :: vs => (wipeU env vs).set v none
/-- what a loop walks: the items, and the lists that have to stay as they are -/
structure Sq where
  items : List U
  watch : List (Nat × List U)
open Classical in
noncomputable def okW (w : List (Nat × List U)) (S : Store) : Bool := w.all fun p => decide (itemsU S (.ref p.1) = some p.2)
noncomputable def loopF (t : Tg) (b : Env → Store → Out) (w : List (Nat × List U)) : List U → Env → Store → Out
  | [], env, S => if okW w S then .nx env S else .stuck
  | u :: us, env, S => if okW w S then (match bindT t u env with
    | none => .stuck
    | some env1 => match b env1 S with
      | .nx e S1 => loopF t b w us e S1
      | .ct e S1 => loopF t b w us e S1
      | .bk e S1 => .nx e S1
      | o => o) else .stuck
def loopW (c : Env → Store → R Bool) (b : Env → Store → Out) : Nat → Env → Store → Out
  | 0, _, _ => .stuck
  | n + 1, env, S => (c env S).out env fun k S1 => if k then (match b env S1 with
      | .nx e S2 => loopW c b n e S2
      | .ct e S2 => loopW c b n e S2
      | .bk e S2 => .nx e S2
      | o => o) else .nx env S1
/-- a comprehension's list grows at l -/
noncomputable def loopC (t : Tg) (own : List Nat) (c : Env → Store → R Bool) (e : Env → Store → R U) (l : Nat) (w : List (Nat × List U)) (env : Env) : List U → Store → R Unit
  | [], S => if okW w S then .val () S else .stuck
  | u :: us, S => if okW w S then (match bindT t u (wipeU env own) with
    | none => .stuck
    | some env1 => (c env1 S).bind fun k S1 => if k then (e env1 S1).bind fun y S2 => (match S2[l]? with
        | some (.lst acc) => if acc.length < LINE then loopC t own c e l w env us (S2.set l (.lst (acc ++ [y]))) else .stuck
        | _ => .stuck) else loopC t own c e l w env us S1) else .stuck
/-- the outer loop of two -/
noncomputable def loopG (t : Tg) (own : List Nat) (b : Env → Store → R Unit) (w : List (Nat × List U)) (env : Env) : List U → Store → R Unit
  | [], S => if okW w S then .val () S else .stuck
  | u :: us, S => if okW w S then (match bindT t u (wipeU env own) with
    | none => .stuck
    | some env1 => (b env1 S).bind fun _ S1 => loopG t own b w env us S1) else .stuck
def sqU (S : Store) (x : U) : Option Sq := match x with
  | .tup us => some ⟨us, []⟩
  | .ref l => match S[l]? with
    | some (.lst us) => some ⟨us, [(l, us)]⟩
    | some (.fz us) => some ⟨us, [(l, us)]⟩
    | _ => none
  | _ => none
/-- a text too -/
def sqS (S : Store) (x : U) : Option Sq := match x with
  | .str x => some ⟨x.cps.toList.map fun c => .str ⟨#[c]⟩, []⟩
  | x => sqU S x
def noX {α : Type} : R α → R α
  | .val a S => .val a S
  | _ => .stuck

/-! ### the machine -/
@[simp] def tru (S : Store) (u : U) : R Bool := ofO S (truU S u)
variable (P : Pg) (cf : Nat → List U → Store → R U)
mutual
@[simp] noncomputable def ev : E → Env → Store → R U
  | .var i, env, S => match env[i]? with
    | some (some u) => .val u S
    | _ => .stuck
  | .int i, _, S => .val (.int i) S
  | .str s, _, S => .val (.str s) S
  | .bl b, _, S => .val (.bl b) S
  | .non, _, S => .val .non S
  | .glo g, _, S => ofO S P.glo[g]?
  | .fnv f, _, S => .val (.fn f) S
  | .bin o a b, env, S => (ev a env S).bind fun x S => (ev b env S).bind fun y S => binU o x y S
  | .neg a, env, S => (ev a env S).bind fun x S => match x with
    | .int i => .val (.int (-i)) S
    | _ => .stuck
  | .cmp o a b, env, S => (ev a env S).bind fun x S => (ev b env S).bind fun y S => ofO S ((cmpU S o x y).map .bl)
  | .cmp2 o p a b c, env, S => (ev a env S).bind fun x S => (ev b env S).bind fun y S => match cmpU S o x y with
    | some true => (ev c env S).bind fun z S => ofO S ((cmpU S p y z).map .bl)
    | some false => .val (.bl false) S
    | none => .stuck
  | .and a b, env, S => (ev a env S).bind fun x S => match truU S x with
    | some true => ev b env S
    | some false => .val x S
    | none => .stuck
  | .or a b, env, S => (ev a env S).bind fun x S => match truU S x with
    | some true => .val x S
    | some false => ev b env S
    | none => .stuck
  | .not a, env, S => (ev a env S).bind fun x S => ofO S ((truU S x).map fun b => .bl (!b))
  | .ife c a b, env, S => (ev c env S).bind fun x S => match truU S x with
    | some true => ev a env S
    | some false => ev b env S
    | none => .stuck
  | .tup es, env, S => (evs es env S).bind fun us S => if us.length ≤ LINE then .val (.tup us) S else .stuck
  | .lst es, env, S => (evs es env S).bind fun us S => newL us S
  | .ix a b, env, S => (ev a env S).bind fun x S => (ev b env S).bind fun y S => ofO S (ixU S x y)
  | .cut a lo hi, env, S => (ev a env S).bind fun x S => (evo lo env S).bind fun i S => (evo hi env S).bind fun j S => cutE x i j S
  | .fld a f, env, S => (ev a env S).bind fun x S => match x with
    | .ref l => match S[l]? with
      | some (.ins _ fs) => ofO S (fs.lookup f)
      | _ => .stuck
    | _ => .stuck
  | .call f es, env, S => (evs es env S).bind fun us S => cf f us S
  | .callv x es, env, S => match env[x]? with
    | some (some (.fn f)) => (evs es env S).bind fun us S => cf f us S
    | _ => .stuck
  | .meth m o es, env, S => (ev o env S).bind fun x S => match x with
    | .ref l => match S[l]? with
      | some (.ins c fs) => match P.meths.lookup (c, m), fs.lookup m with
        | some f, none => (evs es env S).bind fun us S => cf f (x :: us) S
        | _, _ => .stuck
      | _ => .stuck
    | _ => .stuck
  | .mk c es, env, S => (evs es env S).bind fun us S => match P.inits.lookup c with
    | some f => (cf f (.ref S.length :: us) (S ++ [.ins c []])).bind fun u S1 => match u with
      | .non => .val (.ref S.length) S1
      | _ => .stuck
    | none => .stuck
  | .bi b es, env, S => (evs es env S).bind fun us S => biU b us S
  | .bm b o es, env, S => (ev o env S).bind fun x S => if tyU b S x then (evs es env S).bind fun us S => bmU b x us S else .stuck
  | .comp own t it c e, env, S => (evi it env S).bind fun q S => (noX (loopC t own (evc c) (ev e) S.length q.watch env q.items (S ++ [.lst []]))).bind fun _ S1 => .val (.ref S.length) S1
  | .comp2 own t it c own1 t1 it1 c1 e, env, S => (evi it env S).bind fun q S => (noX (loopG t own (fun env1 S1 => (evc c env1 S1).bind fun k S1 => if k then (evi it1 env1 S1).bind fun q1 S2 => loopC t1 own1 (evc c1) (ev e) S.length q1.watch env1 q1.items S2 else .val () S1) q.watch env q.items (S ++ [.lst []]))).bind fun _ S1 => .val (.ref S.length) S1
  | .dict0, _, S => newC (.dct []) S
  | .stk, _, _ => .stuck
  | .esc i q a b c d, env, S => match env[i]? with
    | some (some (.str x)) => ofO S ((escS q a b c d x).map .str)
    | _ => .stuck
  | .dctL es, env, S => (evs es env (S ++ [.dct []])).bind fun us S1 => match S1[S.length]?, pairsU us with
    | some (.dct []), some kvs => if kvs.length ≤ 15 then .val (.ref S.length) (S1.set S.length (.dct (mergeKV kvs))) else .stuck
    | _, _ => .stuck
  | .mov i, env, S => match env[i]? with
    | some (some u) => .val u S
    | _ => .stuck
@[simp] noncomputable def evs : Es → Env → Store → R (List U)
  | .nil, _, S => .val [] S
  | .cons e r, env, S => (ev e env S).bind fun u S => (evs r env S).bind fun us S => .val (u :: us) S
/-- a part of a slice -/
@[simp] noncomputable def evo : Eo → Env → Store → R (Option Int)
  | .none, _, S => .val none S
  | .some e, env, S => (ev e env S).bind fun x S => match x with
    | .int i => .val (some i) S
    | _ => .stuck
/-- a comprehension's test -/
@[simp] noncomputable def evc : Eo → Env → Store → R Bool
  | .none, _, S => .val true S
  | .some e, env, S => (ev e env S).bind fun x S => tru S x
@[simp] noncomputable def evi : It → Env → Store → R Sq
  | .seq e, env, S => (ev e env S).bind fun x S => ofO S (sqS S x)
  | .rng1 e, env, S => (ev e env S).bind fun x S => match x with
    | .int n => if n.natAbs < 4611686018427387904 then .val ⟨(List.range n.toNat).map fun (k : Nat) => U.int k, []⟩ S else .stuck
    | _ => .stuck
  | .rrng1 e, env, S => (ev e env S).bind fun x S => match x with
    | .int n => if n.natAbs < 4611686018427387904 then .val ⟨((List.range n.toNat).map fun (k : Nat) => U.int k).reverse, []⟩ S else .stuck
    | _ => .stuck
  | .rng2 a b, env, S => (ev a env S).bind fun x S => (ev b env S).bind fun y S => match x, y with
    | .int i, .int j => if i.natAbs < 4611686018427387904 ∧ j.natAbs < 4611686018427387904 then .val ⟨(List.range (j - i).toNat).map fun (k : Nat) => U.int (i + k), []⟩ S else .stuck
    | _, _ => .stuck
  | .enum e, env, S => (ev e env S).bind fun x S => match sqU S x, x with
    | some q, .ref _ => .val ⟨q.items.zipIdx.map fun p => .tup [.int p.2, p.1], q.watch⟩ S
    | _, _ => .stuck
  | .zip a b, env, S => (ev a env S).bind fun x S => (ev b env S).bind fun y S => match sqU S x, sqU S y, x, y with
    | some q, some p, .ref _, .ref _ => if q.items.length = p.items.length then .val ⟨(q.items.zip p.items).map fun z => .tup [z.1, z.2], q.watch ++ p.watch⟩ S else .stuck
    | _, _, _, _ => .stuck
  | .rev e, env, S => (ev e env S).bind fun x S => match sqU S x with
    | some q => .val ⟨q.items.reverse, q.watch⟩ S
    | none => .stuck
  | .chars e, env, S => (ev e env S).bind fun x S => ofO S (sqS S x)
end
/-- an expression as a test -/
@[simp] noncomputable def evt (e : E) (env : Env) (S : Store) : R Bool := (ev P cf e env S).bind fun x S => tru S x
def putU (f : Nat) (u : U) : List (Nat × U) → List (Nat × U)
  | [] => [(f, u)]
  | (g, w) :: r => if g = f then (f, u) :: r else (g, w) :: putU f u r
def setfU (fl : List (Nat × Nat)) (x : U) (f : Nat) (u : U) (S : Store) : Option Store := match x with
  | .ref l => match S[l]? with
    | some (.ins c fs) => if fs.length < 1000 ∧ fl.contains (c, f) = true then some (S.set l (.ins c (putU f u fs))) else none
    | _ => none
  | _ => none
def setiU (x i u : U) (S : Store) : Option Store := match x with
  | .ref l => match S[l]? with
    | some (.lst us) => match i with
      | .int k => if 0 ≤ k then (if k < us.length then some (S.set l (.lst (us.set k.toNat u))) else none)
        else if -(us.length : Int) ≤ k then some (S.set l (.lst (us.set (k + us.length).toNat u))) else none
      | _ => none
    | some (.dct kvs) => match keyU i with
      | some k => if kvs.length < LINE then some (S.set l (.dct (putKV k u kvs))) else none
      | none => none
    | _ => none
  | _ => none
def delU (x i : U) (S : Store) : Option Store := match x with
  | .ref l => match S[l]? with
    | some (.dct kvs) => match keyU i with
      | some k => if (getK k kvs).isSome = true then some (S.set l (.dct (dropKV k kvs))) else none
      | none => none
    | _ => none
  | _ => none
/-- a handler that raises nothing -/
def noXo : Out → Out
  | .exc _ _ _ _ => .stuck
  | o => o
def nxO (env : Env) : Option Store → Out
  | some S => .nx env S
  | none => .stuck
def clsU (S : Store) (l : Nat) : Option Nat := match S[l]? with
  | some (.ins c _) => some c
  | _ => none
def augU (fl : List (Nat × Nat)) (p : Bop) (x : U) (f : Nat) (v y : U) (env : Env) (S : Store) : Out := match p, v, y with
  | .add, .int a, .int b => nxO env (setfU fl x f (.int (a + b)) S)
  | .sub, .int a, .int b => nxO env (setfU fl x f (.int (a - b)) S)
  | _, _, _ => .stuck
variable (fuel : Nat)
mutual
@[simp] noncomputable def ex : St → Env → Store → Out
  | .asg t e, env, S => (ev P cf e env S).out env fun x S => match bindT t x env with
    | some env1 => .nx env1 S
    | none => .stuck
  | .setf o f e, env, S => (ev P cf e env S).out env fun u S => (ev P cf o env S).out env fun x S => nxO env (setfU P.flds x f u S)
  | .seti o i e, env, S => (ev P cf e env S).out env fun u S => (ev P cf o env S).out env fun x S => (ev P cf i env S).out env fun k S => nxO env (setiU x k u S)
  | .aug i o e, env, S => match env[i]? with
    | some (some x) => (ev P cf e env S).out env fun y S => match o, x, y with
      | .add, .int a, .int b => .nx (env.set i (some (.int (a + b)))) S
      | .sub, .int a, .int b => .nx (env.set i (some (.int (a - b)))) S
      | _, _, _ => .stuck
    | _ => .stuck
  | .augf o f p e, env, S => (ev P cf o env S).out env fun x S => match x with
    | .ref l => match S[l]? with
      | some (.ins c fs) => match fs.lookup f with
        | some v => (ev P cf e env S).out env fun y S => if clsU S l = some c then augU P.flds p x f v y env S else .stuck
        | none => .stuck
      | _ => .stuck
    | _ => .stuck
  | .exp e, env, S => (ev P cf e env S).out env fun _ S => .nx env S
  | .ret e, env, S => (ev P cf e env S).out env fun u S => .rt u S
  | .retN, _, S => .rt .non S
  | .ifS c a b, env, S => (evt P cf c env S).out env fun k S => if k then exs a env S else exs b env S
  | .whl c b, env, S => loopW (evt P cf c) (exs b) fuel env S
  | .for_ t it b, env, S => (evi P cf it env S).out env fun q S => loopF t (exs b) q.watch q.items env S
  | .brk, env, S => .bk env S
  | .cnt, env, S => .ct env S
  | .pass, env, S => .nx env S
  | .raise c es, env, S => match P.inits.lookup c with
    | some f => (evs P cf es env S).out env fun us S => (cf f (.ref S.length :: us) (S ++ [.xd []])).out env fun _ S1 => .exc c (some S.length) env S1
    | none => .exc c none env S
  | .tryM b hs, env, S => match exs b env S with
    | .exc x d env1 S1 => match P.excs.lookup x with
      | some as => exh hs as x d env1 S1
      | none => .stuck
    | o => o
  | .tryAs b c i h, env, S => match exs b env S with
    | .exc x d env1 S1 => match P.excs.lookup x with
      | some as => if c ∈ as then (match d with
          | some l => exs h (env1.set i (some (.ref l))) S1
          | none => .stuck) else .exc x d env1 S1
      | none => .stuck
    | o => o
  | .del o i, env, S => (ev P cf o env S).out env fun x S => (ev P cf i env S).out env fun k S => nxO env (delU x k S)
  | .stk, env, S => .stuck
  | .kill _, env, S => .nx env S
@[simp] noncomputable def exs : Sts → Env → Store → Out
  | .nil, env, S => .nx env S
  | .cons s r, env, S => match ex s env S with
    | .nx env1 S1 => exs r env1 S1
    | o => o
@[simp] noncomputable def exh : Hs → List Nat → Nat → Option Nat → Env → Store → Out
  | .nil, _, x, d, env, S => .exc x d env S
  | .cons c h r, as, x, d, env, S => if c ∈ as then noXo (exs h env S) else exh r as x d env S
end
/-- a function called: what its body hands back -/
def fin : Out → R U
  | .rt u S => .val u S
  | .nx _ S => .val .non S
  | .exc c d _ S => .exc c d S
  | _ => .stuck
noncomputable def callN : Nat → Nat → List U → Store → R U
  | 0, _, _, _ => .stuck
  | k + 1, f, us, S => match P.fns[f]? with
    | some fn => if us.length = fn.np then fin (exs P (callN k) fuel fn.body (us.map some ++ List.replicate (fn.nl - fn.np) none) S) else .stuck
    | none => .stuck
end PyI
set_option Elab.async false
set_option linter.all false
set_option autoImplicit false
set_option maxRecDepth 100000
set_option maxHeartbeats 2000000
/-! The small machine against the model: what stands where, what is kept. -/
namespace PyI
open PySem L2

/-- addresses of the program's own things, its words -/
structure Wd where
  K : PySem.W.Frag
  nm : List PySem.Str
  fA : Nat → Addr
  cA : Nat → Addr
  cl : List Nat := []

mutual
inductive RelU (D : Wd) (φ : List Addr) (H : Hp) : U → V → Prop where
  | non : RelU D φ H .non .non
  | bl (b : Bool) : RelU D φ H (.bl b) (.bl b)
  | int (i : Int) : RelU D φ H (.int i) (.int i)
  | str (x : PySem.Str) : RelU D φ H (.str x) (.str x)
  | tup {us : List U} {vs : List V} {a : Addr} : SqT D.K H a vs → RelUs D φ H us vs → RelU D φ H (.tup us) (.ref a)
  | ref {l : Nat} {a : Addr} : φ[l]? = some a → RelU D φ H (.ref l) (.ref a)
  | fn (f : Nat) : RelU D φ H (.fn f) (.ref (D.fA f))
inductive RelUs (D : Wd) (φ : List Addr) (H : Hp) : List U → List V → Prop where
  | nil : RelUs D φ H [] []
  | cons {u : U} {v : V} {us : List U} {vs : List V} : RelU D φ H u v → RelUs D φ H us vs → RelUs D φ H (u :: us) (v :: vs)
end

/-- tuples stay -/
def Tm (D : Wd) (H H' : Hp) : Prop := ∀ a xs, SqT D.K H a xs → SqT D.K H' a xs
theorem Tm.refl (D : Wd) (H : Hp) : Tm D H H := fun _ _ h => h
theorem Tm.trans {D : Wd} {H H1 H2 : Hp} (a : Tm D H H1) (b : Tm D H1 H2) : Tm D H H2 := fun x xs h => b x xs (a x xs h)
theorem Tm.new {D : Wd} {H : Hp} {p : Addr} {o : HO} (hp : H p = none) : Tm D H (upd H p o) := fun a xs h => by
  rcases h with (h | ⟨q, h⟩) | h
  · exact .inl (.inl (by rw [upd_ne (ne_of_none h hp)]; exact h))
  · exact .inl (.inr ⟨q, by rw [upd_ne (ne_of_none h hp)]; exact h⟩)
  · exact .inr h
/-- what may be overwritten -/
def soft : HO → Bool
  | .lst _ => true
  | .dK _ => true
  | .ins _ _ _ => true
  | .xd _ => true
  | _ => false
theorem Tm.set {D : Wd} {H : Hp} {p : Addr} {o o' : HO} (hp : H p = some o) (hs : soft o = true) : Tm D H (upd H p o') := fun a xs h => by
  rcases h with (h | ⟨q, h⟩) | h
  · exact .inl (.inl (by rw [upd_ne (ne_of h hp (by intro z; subst z; cases hs))]; exact h))
  · exact .inl (.inr ⟨q, by rw [upd_ne (ne_of h hp (by intro z; subst z; cases hs))]; exact h⟩)
  · exact .inr h

section
variable {D : Wd} {φ φ' : List Addr} {H H' : Hp}
theorem pre_at {α : Type} {xs ys : List α} (h : xs <+: ys) {l : Nat} {a : α} (e : xs[l]? = some a) : ys[l]? = some a := by
  obtain ⟨t, rfl⟩ := h
  have hl := (List.getElem?_eq_some_iff.mp e).1
  rw [List.getElem?_append_left hl]
  exact e
mutual
theorem RelU.mono (hp : φ <+: φ') (ht : Tm D H H') : ∀ {u : U} {v : V}, RelU D φ H u v → RelU D φ' H' u v
  | _, _, .non => .non
  | _, _, .bl b => .bl b
  | _, _, .int i => .int i
  | _, _, .str x => .str x
  | _, _, .tup s r => .tup (ht _ _ s) (RelUs.mono hp ht r)
  | _, _, .ref e => .ref (pre_at hp e)
  | _, _, .fn f => .fn f
theorem RelUs.mono (hp : φ <+: φ') (ht : Tm D H H') : ∀ {us : List U} {vs : List V}, RelUs D φ H us vs → RelUs D φ' H' us vs
  | _, _, .nil => .nil
  | _, _, .cons a r => .cons (RelU.mono hp ht a) (RelUs.mono hp ht r)
end
theorem RelUs.len : ∀ {us : List U} {vs : List V}, RelUs D φ H us vs → us.length = vs.length
  | _, _, .nil => rfl
  | _, _, .cons _ r => congrArg (· + 1) r.len
theorem RelUs.app : ∀ {us ws : List U} {vs ys : List V}, RelUs D φ H us vs → RelUs D φ H ws ys → RelUs D φ H (us ++ ws) (vs ++ ys)
  | _, _, _, _, .nil, s => s
  | _, _, _, _, .cons a r, s => .cons a (RelUs.app r s)
theorem RelUs.at : ∀ {us : List U} {vs : List V} {i : Nat} {u : U}, RelUs D φ H us vs → us[i]? = some u → ∃ v, vs[i]? = some v ∧ RelU D φ H u v
  | _, _, _, _, .nil, e => by simp at e
  | _, _, 0, _, .cons a r, e => by
    simp at e; subst e; exact ⟨_, rfl, a⟩
  | _, _, i + 1, u, .cons a r, e => by
    obtain ⟨v, h1, h2⟩ := RelUs.at (i := i) (u := u) r (by simpa using e)
    exact ⟨v, by simpa using h1, h2⟩
theorem RelUs.at' : ∀ {us : List U} {vs : List V} {i : Nat} {v : V}, RelUs D φ H us vs → vs[i]? = some v → ∃ u, us[i]? = some u ∧ RelU D φ H u v
  | _, _, _, _, .nil, e => by simp at e
  | _, _, 0, _, .cons a r, e => by
    simp at e; subst e; exact ⟨_, rfl, a⟩
  | _, _, i + 1, v, .cons a r, e => by
    obtain ⟨u, h1, h2⟩ := RelUs.at' (i := i) (v := v) r (by simpa using e)
    exact ⟨u, by simpa using h1, h2⟩
theorem RelUs.take : ∀ {us : List U} {vs : List V} (n : Nat), RelUs D φ H us vs → RelUs D φ H (us.take n) (vs.take n)
  | _, _, 0, _ => .nil
  | _, _, _ + 1, .nil => .nil
  | _, _, n + 1, .cons a r => .cons a (RelUs.take n r)
theorem RelUs.drop : ∀ {us : List U} {vs : List V} (n : Nat), RelUs D φ H us vs → RelUs D φ H (us.drop n) (vs.drop n)
  | _, _, 0, r => r
  | _, _, _ + 1, .nil => .nil
  | _, _, n + 1, .cons _ r => RelUs.drop n r
theorem RelUs.set {u : U} {v : V} (a : RelU D φ H u v) : ∀ {us : List U} {vs : List V} (n : Nat), RelUs D φ H us vs → RelUs D φ H (us.set n u) (vs.set n v)
  | _, _, _, .nil => .nil
  | _, _, 0, .cons _ r => .cons a r
  | _, _, n + 1, .cons b r => .cons b (RelUs.set a n r)
theorem RelUs.rev {us : List U} {vs : List V} (r : RelUs D φ H us vs) : RelUs D φ H us.reverse vs.reverse := by
  induction us generalizing vs with
  | nil => cases r; exact .nil
  | cons u us ih =>
    cases r with
    | cons a r =>
      rw [List.reverse_cons, List.reverse_cons]
      exact (ih r).app (.cons a .nil)
theorem RelUs.rep {us : List U} {vs : List V} (r : RelUs D φ H us vs) : ∀ k : Nat, RelUs D φ H (List.replicate k us).flatten (List.replicate k vs).flatten
  | 0 => .nil
  | k + 1 => by
    rw [List.replicate_succ, List.replicate_succ, List.flatten_cons, List.flatten_cons]
    exact r.app (RelUs.rep r k)
theorem RelUs.erase {us : List U} {vs : List V} (r : RelUs D φ H us vs) (n : Nat) : RelUs D φ H (us.eraseIdx n) (vs.eraseIdx n) := by
  rw [List.eraseIdx_eq_take_drop_succ, List.eraseIdx_eq_take_drop_succ]
  exact (r.take n).app (r.drop (n + 1))
theorem RelUs.dropLast {us : List U} {vs : List V} (r : RelUs D φ H us vs) : RelUs D φ H us.dropLast vs.dropLast := by
  rw [List.dropLast_eq_take, List.dropLast_eq_take, r.len]
  exact r.take _
theorem RelUs.ints {vs : List V} : ∀ {us : List U} {ns : List Int}, RelUs D φ H us vs → asInts us = some ns → vs = ns.map V.int ∧ us = ns.map U.int := by
  intro us
  induction us generalizing vs with
  | nil => intro ns r e; cases r; cases e; exact ⟨rfl, rfl⟩
  | cons u us ih =>
    intro ns r e
    cases r with
    | cons a r =>
      cases u with
      | int i =>
        cases a
        unfold asInts at e
        cases q : asInts us with
        | none => rw [q] at e; cases e
        | some ms =>
          rw [q] at e; cases e
          obtain ⟨h1, h2⟩ := ih r q
          exact ⟨by rw [h1]; rfl, by rw [h2]; rfl⟩
      | _ => cases e
theorem RelUs.bls {vs : List V} : ∀ {us : List U} {ns : List Bool}, RelUs D φ H us vs → asBls us = some ns → vs = ns.map V.bl := by
  intro us
  induction us generalizing vs with
  | nil => intro ns r e; cases r; cases e; rfl
  | cons u us ih =>
    intro ns r e
    cases r with
    | cons a r =>
      cases u with
      | bl i =>
        cases a
        unfold asBls at e
        cases q : asBls us with
        | none => rw [q] at e; cases e
        | some ms =>
          rw [q] at e; cases e
          rw [ih r q]; rfl
      | _ => cases e
theorem RelUs.strs {vs : List V} : ∀ {us : List U} {ns : List PySem.Str}, RelUs D φ H us vs → asStrs us = some ns → vs = ns.map V.str := by
  intro us
  induction us generalizing vs with
  | nil => intro ns r e; cases r; cases e; rfl
  | cons u us ih =>
    intro ns r e
    cases r with
    | cons a r =>
      cases u with
      | str i =>
        cases a
        unfold asStrs at e
        cases q : asStrs us with
        | none => rw [q] at e; cases e
        | some ms =>
          rw [q] at e; cases e
          rw [ih r q]; rfl
      | _ => cases e
theorem RelUs.ofInts (ns : List Int) : RelUs D φ H (ns.map U.int) (ns.map V.int) := by
  induction ns with
  | nil => exact .nil
  | cons n ns ih => exact .cons (.int n) ih

theorem RelUs.ofStrs (ns : List PySem.Str) : RelUs D φ H (ns.map U.str) (ns.map V.str) := by
  induction ns with
  | nil => exact .nil
  | cons n ns ih => exact .cons (.str n) ih

/-! ### fields, keys, cells -/
inductive RelF (D : Wd) (φ : List Addr) (H : Hp) : List (Nat × U) → List (PySem.Str × V) → Prop where
  | nil : RelF D φ H [] []
  | cons {f : Nat} {x : PySem.Str} {u : U} {v : V} {fs : List (Nat × U)} {gs : List (PySem.Str × V)} : D.nm[f]? = some x → RelU D φ H u v → RelF D φ H fs gs → RelF D φ H ((f, u) :: fs) ((x, v) :: gs)
def keyK : Key → L2.Key
  | .i k => .inl k
  | .s x => .inr x
theorem keyK_inj {a b : Key} (h : keyK a = keyK b) : a = b := by
  cases a <;> cases b <;> simp [keyK] at h <;> rw [h]
inductive RelK (D : Wd) (φ : List Addr) (H : Hp) : List (Key × U) → List (L2.Key × V) → Prop where
  | nil : RelK D φ H [] []
  | cons {k : Key} {u : U} {v : V} {fs : List (Key × U)} {gs : List (L2.Key × V)} : RelU D φ H u v → RelK D φ H fs gs → RelK D φ H ((k, u) :: fs) ((keyK k, v) :: gs)
theorem RelF.mono (hp : φ <+: φ') (ht : Tm D H H') : ∀ {fs : List (Nat × U)} {gs : List (PySem.Str × V)}, RelF D φ H fs gs → RelF D φ' H' fs gs
  | _, _, .nil => .nil
  | _, _, .cons e a r => .cons e (a.mono hp ht) (RelF.mono hp ht r)
theorem RelK.mono (hp : φ <+: φ') (ht : Tm D H H') : ∀ {fs : List (Key × U)} {gs : List (L2.Key × V)}, RelK D φ H fs gs → RelK D φ' H' fs gs
  | _, _, .nil => .nil
  | _, _, .cons a r => .cons (a.mono hp ht) (RelK.mono hp ht r)
theorem RelF.len : ∀ {fs : List (Nat × U)} {gs : List (PySem.Str × V)}, RelF D φ H fs gs → fs.length = gs.length
  | _, _, .nil => rfl
  | _, _, .cons _ _ r => congrArg (· + 1) r.len
theorem RelK.len : ∀ {fs : List (Key × U)} {gs : List (L2.Key × V)}, RelK D φ H fs gs → fs.length = gs.length
  | _, _, .nil => rfl
  | _, _, .cons _ r => congrArg (· + 1) r.len
theorem nm_inj (nd : D.nm.Nodup) {f g : Nat} {x : PySem.Str} (a : D.nm[f]? = some x) (b : D.nm[g]? = some x) : f = g := nodup_ix nd a b
theorem RelF.look (nd : D.nm.Nodup) {f : Nat} {x : PySem.Str} (hx : D.nm[f]? = some x) : ∀ {fs : List (Nat × U)} {gs : List (PySem.Str × V)}, RelF D φ H fs gs →
    (∀ u, fs.lookup f = some u → ∃ v, gs.lookup x = some v ∧ RelU D φ H u v) ∧ (fs.lookup f = none → gs.lookup x = none)
  | _, _, .nil => ⟨fun u h => (by cases h), fun _ => rfl⟩
  | _, _, .cons (f := g) (x := y) (u := u) (v := v) (fs := fs) (gs := gs) e a r => by
    obtain ⟨h1, h2⟩ := RelF.look nd hx r
    by_cases q : f = g
    · subst q
      rw [hx] at e; cases e
      rw [List.lookup_cons, List.lookup_cons]
      simp only [beq_self_eq_true]
      exact ⟨fun w hw => ⟨v, rfl, by cases hw; exact a⟩, fun hw => by cases hw⟩
    · have q2 : x ≠ y := fun z => q (nm_inj nd hx (z ▸ e))
      rw [List.lookup_cons, List.lookup_cons, beq_eq_false_iff_ne.mpr q, beq_eq_false_iff_ne.mpr q2]
      exact ⟨h1, h2⟩
theorem RelF.put (nd : D.nm.Nodup) {f : Nat} {x : PySem.Str} (hx : D.nm[f]? = some x) {u : U} {v : V} (a : RelU D φ H u v) : ∀ {fs : List (Nat × U)} {gs : List (PySem.Str × V)}, RelF D φ H fs gs → RelF D φ H (putU f u fs) (putF x v gs)
  | _, _, .nil => .cons hx a .nil
  | _, _, .cons (f := g) (x := y) (u := u1) (v := v1) (fs := fs) (gs := gs) e b r => by
    have ih := RelF.put nd hx a r
    unfold putU putF
    by_cases q : g = f
    · subst q
      rw [hx] at e; cases e
      simp only [if_true, beq_self_eq_true]
      exact .cons hx a r
    · have q2 : y ≠ x := fun z => q (nm_inj nd e (z ▸ hx))
      rw [if_neg q]
      first
        | rw [if_neg q2]
        | simp only [beq_eq_false_iff_ne.mpr q2, Bool.false_eq_true, if_false]
      exact .cons e b ih

def trk : Cell → Bool
  | .fz _ => false
  | _ => true
/-- a list of the written part -/
def KL (K : PySem.W.Frag) (a : Addr) (vs : List V) : Prop := ∀ H : Hp, SqL K H a vs
def CellOk (D : Wd) (φ : List Addr) (H : Hp) (a : Addr) : Cell → Prop
  | .lst us => ∃ vs, H a = some (.lst vs) ∧ RelUs D φ H us vs
  | .fz us => ∃ vs, ((∃ o, H a = some (.frz o (.lst vs))) ∨ KL D.K a vs) ∧ RelUs D φ H us vs
  | .ins c fs => ∃ dx gs, H a = some (.ins (D.cA c) dx gs) ∧ RelF D φ H fs gs ∧ c ∈ D.cl ∧ ∀ q ∈ fs, ∀ x, D.nm[q.1]? = some x → NoAttr D.K (D.cA c) x
  | .dct kvs => ∃ gs, H a = some (.dK gs) ∧ RelK D φ H kvs gs
  | .xd fs => ∃ gs, H a = some (.xd gs) ∧ RelF D φ H fs gs
structure Sim (D : Wd) (φ : List Addr) (S : Store) (H : Hp) : Prop where
  len : φ.length = S.length
  cell : ∀ (l : Nat) (c : Cell) (a : Addr), S[l]? = some c → φ[l]? = some a → CellOk D φ H a c
  inj : ∀ (l k : Nat) (c d : Cell) (a : Addr), S[l]? = some c → S[k]? = some d → trk c = true → trk d = true → φ[l]? = some a → φ[k]? = some a → l = k
theorem CellOk.soft {a : Addr} {c : Cell} (h : CellOk D φ H a c) (t : trk c = true) : ∃ o, H a = some o ∧ soft o = true := by
  cases c with
  | lst us => obtain ⟨vs, e, _⟩ := h; exact ⟨_, e, rfl⟩
  | fz us => cases t
  | ins c fs => obtain ⟨dx, gs, e, _, _⟩ := h; exact ⟨_, e, rfl⟩
  | dct kvs => obtain ⟨gs, e, _⟩ := h; exact ⟨_, e, rfl⟩
  | xd fs => obtain ⟨gs, e, _⟩ := h; exact ⟨_, e, rfl⟩
/-- a cell's description at another heap -/
theorem CellOk.mono {a : Addr} {c : Cell} (h : CellOk D φ H a c) (hp : φ <+: φ') (ht : Tm D H H') (hk : trk c = true → H' a = H a) (hf : ∀ o u, H a = some (.frz o u) → H' a = some (.frz o u)) : CellOk D φ' H' a c := by
  cases c with
  | lst us => obtain ⟨vs, e, r⟩ := h; exact ⟨vs, (hk rfl).trans e, r.mono hp ht⟩
  | fz us =>
    obtain ⟨vs, e, r⟩ := h
    refine ⟨vs, ?_, r.mono hp ht⟩
    rcases e with ⟨o, e⟩ | e
    · exact .inl ⟨o, hf _ _ e⟩
    · exact .inr e
  | ins c fs => obtain ⟨dx, gs, e, r, k⟩ := h; exact ⟨dx, gs, (hk rfl).trans e, r.mono hp ht, k⟩
  | dct kvs => obtain ⟨gs, e, r⟩ := h; exact ⟨gs, (hk rfl).trans e, r.mono hp ht⟩
  | xd fs => obtain ⟨gs, e, r⟩ := h; exact ⟨gs, (hk rfl).trans e, r.mono hp ht⟩
theorem Sim.at {S : Store} (g : Sim D φ S H) {l : Nat} {c : Cell} (e : S[l]? = some c) : ∃ a, φ[l]? = some a ∧ CellOk D φ H a c := by
  have hl : l < φ.length := by rw [g.len]; exact (List.getElem?_eq_some_iff.mp e).1
  exact ⟨φ[l], List.getElem?_eq_getElem hl, g.cell l c _ e (List.getElem?_eq_getElem hl)⟩
/-- a new cell -/
theorem Sim.new {S : Store} (g : Sim D φ S H) {p : Addr} {o : HO} {c : Cell} (hp : H p = none) (hc : CellOk D (φ ++ [p]) (upd H p o) p c) (ht : trk c = true) : Sim D (φ ++ [p]) (S ++ [c]) (upd H p o) where
  len := by rw [List.length_append, List.length_append, g.len]; rfl
  cell := fun l d a e e2 => by
    by_cases q : l < S.length
    · rw [List.getElem?_append_left q] at e
      rw [List.getElem?_append_left (by rw [g.len]; exact q)] at e2
      have h := g.cell l d a e e2
      refine h.mono (List.prefix_append _ _) (Tm.new hp) (fun t => ?_) (fun ob u z => ?_)
      · obtain ⟨o1, h1, _⟩ := h.soft t
        exact upd_ne (ne_of_none h1 hp)
      · rw [upd_ne (ne_of_none z hp)]; exact z
    · have hl := (List.getElem?_eq_some_iff.mp e).1
      rw [List.length_append] at hl
      have q2 : l = S.length := by simp at hl; omega
      subst q2
      rw [List.getElem?_append_right (Nat.le_refl _), Nat.sub_self] at e
      rw [← g.len, List.getElem?_append_right (Nat.le_refl _), Nat.sub_self] at e2
      cases e; cases e2
      exact hc
  inj := fun l k c1 d1 a e1 e2 t1 t2 f1 f2 => by
    have old : ∀ {l : Nat} {c1 : Cell}, l < S.length → (S ++ [c])[l]? = some c1 → trk c1 = true → (φ ++ [p])[l]? = some a → a ≠ p := fun {l c1} q e t f => by
      rw [List.getElem?_append_left q] at e
      rw [List.getElem?_append_left (by rw [g.len]; exact q)] at f
      obtain ⟨o1, h1, _⟩ := (g.cell l c1 a e f).soft t
      exact ne_of_none h1 hp
    have new : ∀ {l : Nat} {c1 : Cell}, ¬ l < S.length → (S ++ [c])[l]? = some c1 → l = S.length := fun {l c1} q e => by
      have hl := (List.getElem?_eq_some_iff.mp e).1
      rw [List.length_append] at hl
      simp at hl; omega
    have newA : ∀ {l : Nat}, l = S.length → (φ ++ [p])[l]? = some a → a = p := fun {l} q f => by
      subst q
      rw [← g.len, List.getElem?_append_right (Nat.le_refl _), Nat.sub_self] at f
      cases f; rfl
    by_cases q : l < S.length
    · by_cases q' : k < S.length
      · rw [List.getElem?_append_left q] at e1
        rw [List.getElem?_append_left q'] at e2
        rw [List.getElem?_append_left (by rw [g.len]; exact q)] at f1
        rw [List.getElem?_append_left (by rw [g.len]; exact q')] at f2
        exact g.inj l k c1 d1 a e1 e2 t1 t2 f1 f2
      · exact absurd (newA (new q' e2) f2) (old q e1 t1 f1)
    · by_cases q' : k < S.length
      · exact absurd (newA (new q e1) f1) (old q' e2 t2 f2)
      · rw [new q e1, new q' e2]
/-- a cell overwritten -/
theorem Sim.set {S : Store} (g : Sim D φ S H) {l : Nat} {a : Addr} {c c' : Cell} {o' : HO} (e : S[l]? = some c) (f : φ[l]? = some a) (t : trk c = true) (t' : trk c' = true) (hc : Tm D H (upd H a o') → CellOk D φ (upd H a o') a c') : Sim D φ (S.set l c') (upd H a o') := by
  obtain ⟨o, ho, hs⟩ := (g.cell l c a e f).soft t
  have tm : Tm D H (upd H a o') := Tm.set ho hs
  have lt : l < S.length := (List.getElem?_eq_some_iff.mp e).1
  refine ⟨by rw [List.length_set]; exact g.len, fun k d b e2 f2 => ?_, fun k m c1 d1 b e1 e2 t1 t2 f1 f2 => ?_⟩
  · by_cases q : l = k
    · subst q
      rw [List.getElem?_set_self lt] at e2
      cases e2
      rw [f] at f2; cases f2
      exact hc tm
    · rw [List.getElem?_set_ne q] at e2
      have h := g.cell k d b e2 f2
      refine h.mono (List.prefix_refl _) tm (fun td => ?_) (fun ob u z => ?_)
      · exact upd_ne fun z => q (g.inj l k c d a e e2 t td f (z ▸ f2))
      · rw [upd_ne (ne_of z ho (by intro y; subst y; cases hs))]; exact z
  · have back : ∀ {k : Nat} {c1 : Cell}, (S.set l c')[k]? = some c1 → trk c1 = true → ∃ c2, S[k]? = some c2 ∧ trk c2 = true := fun {k c1} e1 t1 => by
      by_cases q : l = k
      · subst q; exact ⟨c, e, t⟩
      · rw [List.getElem?_set_ne q] at e1; exact ⟨c1, e1, t1⟩
    obtain ⟨c2, e3, t3⟩ := back e1 t1
    obtain ⟨d2, e4, t4⟩ := back e2 t2
    exact g.inj k m c2 d2 b e3 e4 t3 t4 f1 f2
end
end PyI
set_option Elab.async false
set_option linter.all false
set_option autoImplicit false
set_option maxRecDepth 100000
set_option maxHeartbeats 2000000
/-! What the small machine answers is what the model does: expressions. -/
namespace PyI
open PySem L2

def RelD (φ : List Addr) : Option Nat → Option Addr → Prop
  | none, none => True
  | some l, some a => φ[l]? = some a
  | _, _ => False
/-- an answer, brought to the abstract heap -/
def SatR (D : Wd) {α β : Type} (r : R α) (rel : List Addr → Hp → α → β → Prop) (φ : List Addr) (H : Hp) (Q : β → Hp → Prop) (Ex : XK) : Prop :=
  match r with
  | .val u S1 => ∀ φ1 H1 v, φ <+: φ1 → Tm D H H1 → Sim D φ1 S1 H1 → rel φ1 H1 u v → Q v H1
  | .exc c d S1 => ∀ φ1 H1 dv, φ <+: φ1 → Tm D H H1 → Sim D φ1 S1 H1 → RelD φ1 d dv → Ex (.ref (D.cA c)) dv H1
  | .stuck => False
structure RelE (D : Wd) (φ : List Addr) (H : Hp) (env : Env) (σ : L2.St) : Prop where
  len : env.length = σ.length
  at_ : ∀ (i : Nat) (u : U), env[i]? = some (some u) → ∃ v, σ[i]? = some (some v) ∧ RelU D φ H u v
section
variable {D : Wd} {φ φ1 : List Addr} {H H1 : Hp}
theorem RelE.mono {env : Env} {σ : L2.St} (e : RelE D φ H env σ) (hp : φ <+: φ1) (ht : Tm D H H1) : RelE D φ1 H1 env σ := ⟨e.len, fun i u h => by
  obtain ⟨v, h1, h2⟩ := e.at_ i u h
  exact ⟨v, h1, h2.mono hp ht⟩⟩
theorem RelE.set {env : Env} {σ : L2.St} (e : RelE D φ H env σ) {u : U} {v : V} (r : RelU D φ H u v) (i : Nat) : RelE D φ H (env.set i (some u)) (σ.set i (some v)) := ⟨by rw [List.length_set, List.length_set]; exact e.len, fun j w h => by
  by_cases q : i = j
  · subst q
    have hl := (List.getElem?_eq_some_iff.mp h).1
    rw [List.length_set] at hl
    rw [List.getElem?_set_self hl] at h
    cases h
    exact ⟨v, List.getElem?_set_self (by rw [← e.len]; exact hl), r⟩
  · rw [List.getElem?_set_ne q] at h
    rw [List.getElem?_set_ne q]
    exact e.at_ j w h⟩
theorem SatR.mono {α β : Type} {r : R α} {rel : List Addr → Hp → α → β → Prop} {Q : β → Hp → Prop} {Ex : XK} (h : SatR D r rel φ H Q Ex) (hp : φ <+: φ1) (ht : Tm D H H1) : SatR D r rel φ1 H1 Q Ex := by
  cases r with
  | val u S => exact fun φ2 H2 v a b => h φ2 H2 v (hp.trans a) (ht.trans b)
  | exc c d S => exact fun φ2 H2 v a b => h φ2 H2 v (hp.trans a) (ht.trans b)
  | stuck => exact h
theorem SatR.bind {α β γ δ : Type} {r : R α} {f : α → Store → R β} {rel2 : List Addr → Hp → β → δ → Prop} {rel : List Addr → Hp → α → γ → Prop} {Q : δ → Hp → Prop} {Q1 : γ → Hp → Prop} {Ex : XK} (h : SatR D (r.bind f) rel2 φ H Q Ex)
    (k : ∀ (a : α) (S1 : Store) (φ1 : List Addr) (H1 : Hp) (v : γ), r = .val a S1 → φ <+: φ1 → Tm D H H1 → Sim D φ1 S1 H1 → rel φ1 H1 a v → SatR D (f a S1) rel2 φ1 H1 Q Ex → Q1 v H1) : SatR D r rel φ H Q1 Ex := by
  cases r with
  | val u S => exact fun φ2 H2 v a b g e => k u S φ2 H2 v rfl a b g e (SatR.mono (r := f u S) h a b)
  | exc c d S => exact h
  | stuck => exact h
theorem SatR.here {α β : Type} {u : α} {S : Store} {rel : List Addr → Hp → α → β → Prop} {Q : β → Hp → Prop} {Ex : XK} {v : β} (h : SatR D (.val u S) rel φ H Q Ex) (g : Sim D φ S H) (r : rel φ H u v) : Q v H := h φ H v (List.prefix_refl _) (Tm.refl _ _) g r
theorem SatR.newL {us : List U} {S : Store} {Q : VK} {Ex : XK} {vs : List V} (h : SatR D (newL us S) (RelU D) φ H Q Ex) (g : Sim D φ S H) (r : RelUs D φ H us vs) : vs.length ≤ sizeLine ∧ ∀ p, H p = none → Q (.ref p) (upd H p (.lst vs)) := by
  unfold PyI.newL at h
  by_cases q : us.length ≤ LINE
  · rw [if_pos q] at h
    refine ⟨by rw [← r.len, sizeLine_eq]; exact q, fun p hp => ?_⟩
    refine h (φ ++ [p]) _ _ (List.prefix_append _ _) (Tm.new hp) (g.new hp ⟨vs, upd_same, r.mono (List.prefix_append _ _) (Tm.new hp)⟩ rfl) (.ref ?_)
    rw [← g.len, List.getElem?_append_right (Nat.le_refl _), Nat.sub_self]
    rfl
  · rw [if_neg q] at h
    exact h.elim
theorem SatR.newC {us : List U} {S : Store} {Q : VK} {Ex : XK} {vs : List V} (h : SatR D (newC (.lst us) S) (RelU D) φ H Q Ex) (g : Sim D φ S H) (r : RelUs D φ H us vs) : ∀ p, H p = none → Q (.ref p) (upd H p (.lst vs)) := fun p hp => by
  refine h (φ ++ [p]) _ _ (List.prefix_append _ _) (Tm.new hp) (g.new hp ⟨vs, upd_same, r.mono (List.prefix_append _ _) (Tm.new hp)⟩ rfl) (.ref ?_)
  rw [← g.len, List.getElem?_append_right (Nat.le_refl _), Nat.sub_self]
  rfl
theorem SatR.ofO {α β : Type} {o : Option α} {S : Store} {rel : List Addr → Hp → α → β → Prop} {Q : β → Hp → Prop} {Ex : XK} (h : SatR D (ofO S o) rel φ H Q Ex) : ∃ u, o = some u ∧ SatR D (.val u S) rel φ H Q Ex := by
  cases o with
  | none => exact h.elim
  | some u => exact ⟨u, rfl, h⟩

/-! ### what a value is, seen in the store -/
/-- a list cell: readable -/
theorem Sim.rd {S : Store} (g : Sim D φ S H) {l : Nat} {a : Addr} {us : List U} (f : φ[l]? = some a) (e : S[l]? = some (.lst us) ∨ S[l]? = some (.fz us)) : ∃ vs, SqL D.K H a vs ∧ RelUs D φ H us vs := by
  rcases e with e | e
  · obtain ⟨vs, h, r⟩ := g.cell l _ a e f
    exact ⟨vs, .of h, r⟩
  · obtain ⟨vs, h, r⟩ := g.cell l _ a e f
    refine ⟨vs, ?_, r⟩
    rcases h with ⟨o, h⟩ | h
    · exact .inl (.inr ⟨o, h⟩)
    · exact h H
theorem items_of {S : Store} {u : U} {us : List U} (h : itemsU S u = some us) : (u = .tup us) ∨ ∃ l, u = .ref l ∧ (S[l]? = some (.lst us) ∨ S[l]? = some (.fz us)) := by
  unfold itemsU at h
  cases u with
  | tup ws => cases h; exact .inl rfl
  | ref l =>
    refine .inr ⟨l, rfl, ?_⟩
    dsimp only at h
    split at h
    · cases h; exact .inl (by assumption)
    · cases h; exact .inr (by assumption)
    · cases h
  | _ => cases h
theorem Sim.items {S : Store} (g : Sim D φ S H) {u : U} {v : V} {us : List U} (r : RelU D φ H u v) (h : itemsU S u = some us) : ∃ a vs, v = .ref a ∧ (SqL D.K H a vs ∨ SqT D.K H a vs) ∧ RelUs D φ H us vs := by
  rcases items_of h with rfl | ⟨l, rfl, e⟩
  · cases r with
    | tup s r => exact ⟨_, _, rfl, .inr s, r⟩
  · cases r with
    | ref f =>
      obtain ⟨vs, h1, h2⟩ := g.rd f e
      exact ⟨_, vs, rfl, .inl h1, h2⟩
theorem Sim.itemsL {S : Store} (g : Sim D φ S H) {l : Nat} {v : V} {us : List U} (r : RelU D φ H (.ref l) v) (h : itemsU S (.ref l) = some us) : ∃ a vs, v = .ref a ∧ SqL D.K H a vs ∧ RelUs D φ H us vs := by
  rcases items_of h with q | ⟨k, q, e⟩
  · cases q
  · cases q
    cases r with
    | ref f =>
      obtain ⟨vs, h1, h2⟩ := g.rd f e
      exact ⟨_, vs, rfl, h1, h2⟩
/-- plain data -/
theorem seqO_some {α : Type} : ∀ {l : List (Option α)} {r : List α}, seqO l = some r → l = r.map some
  | [], r, h => by cases h; rfl
  | none :: _, r, h => by cases h
  | some a :: t, r, h => by
    unfold seqO at h
    cases q : seqO t with
    | none => rw [q] at h; cases h
    | some s => rw [q] at h; cases h; rw [seqO_some q]; rfl
theorem dat_ok {S : Store} (g : Sim D φ S H) : ∀ (n : Nat) {u : U} {v : V} {d : PyData}, RelU D φ H u v → datU S n u = some d → Dp D.K H v d ∧ PyData.canLay0 d = true ∧ d.depth ≤ n := by
  intro n
  induction n with
  | zero =>
    intro u v d r h
    cases r with
    | non => cases h; exact ⟨.non, by simp [PyData.canLay0], by simp [PyData.depth]⟩
    | bl b => cases h; exact ⟨.bl b, by simp [PyData.canLay0], by simp [PyData.depth]⟩
    | int b => cases h; exact ⟨.int b, by simp [PyData.canLay0], by simp [PyData.depth]⟩
    | str b =>
      dsimp only [datU] at h
      split at h
      · rename_i ok
        cases h
        exact ⟨.str b, by simp only [PyData.canLay0]; exact ok, by simp [PyData.depth]⟩
      · cases h
    | tup s r => cases h
    | ref f => cases h
    | fn f => cases h
  | succ n ih =>
    have all : ∀ {us : List U} {vs : List V} {ds : List PyData}, RelUs D φ H us vs → seqO (us.map (datU S n)) = some ds → DpAll D.K H vs ds ∧ PyData.canLayAll0 ds = true ∧ PyData.depthAll ds ≤ n := by
      intro us
      induction us with
      | nil => intro vs ds r h; cases r; cases h; exact ⟨.nil, by simp [PyData.canLayAll0], by simp [PyData.depthAll]⟩
      | cons u us ihs =>
        intro vs ds r h
        cases r with
        | cons a r =>
          rw [List.map_cons] at h
          cases q : datU S n u with
          | none => rw [q] at h; cases h
          | some d =>
            rw [q] at h
            unfold seqO at h
            cases q2 : seqO (us.map (datU S n)) with
            | none => rw [q2] at h; cases h
            | some es =>
              rw [q2] at h; cases h
              obtain ⟨a1, a2, a3⟩ := ih a q
              obtain ⟨b1, b2, b3⟩ := ihs r q2
              refine ⟨.cons a1 b1, ?_, ?_⟩
              · simp only [PyData.canLayAll0, a2, b2, Bool.and_self]
              · simp only [PyData.depthAll]; omega
    intro u v d r h
    cases r with
    | non => cases h; exact ⟨.non, by simp [PyData.canLay0], by simp [PyData.depth]⟩
    | bl b => cases h; exact ⟨.bl b, by simp [PyData.canLay0], by simp [PyData.depth]⟩
    | int b => cases h; exact ⟨.int b, by simp [PyData.canLay0], by simp [PyData.depth]⟩
    | str b =>
      dsimp only [datU] at h
      split at h
      · rename_i ok
        cases h
        exact ⟨.str b, by simp only [PyData.canLay0]; exact ok, by simp [PyData.depth]⟩
      · cases h
    | tup s r =>
      dsimp only [datU] at h
      obtain ⟨ds, h1, rfl⟩ := Option.map_eq_some_iff.mp h
      obtain ⟨a1, a2, a3⟩ := all r h1
      refine ⟨.tup s a1, ?_, ?_⟩
      · simp only [PyData.canLay0]; exact a2
      · simp only [PyData.depth]; omega
    | ref f =>
      rename_i l a
      dsimp only [datU] at h
      have fin : ∀ {us : List U}, (S[l]? = some (.lst us) ∨ S[l]? = some (.fz us)) → (seqO (us.map (datU S n))).map .list = some d → Dp D.K H (.ref a) d ∧ PyData.canLay0 d = true ∧ d.depth ≤ n + 1 := fun {us} e h => by
        obtain ⟨ds, h1, rfl⟩ := Option.map_eq_some_iff.mp h
        obtain ⟨vs, s, r⟩ := g.rd f e
        obtain ⟨a1, a2, a3⟩ := all r h1
        refine ⟨.lst s a1, ?_, ?_⟩
        · simp only [PyData.canLay0]; exact a2
        · simp only [PyData.depth]; omega
      split at h
      · exact fin (.inl (by assumption)) h
      · exact fin (.inr (by assumption)) h
      · cases h
    | fn f => cases h
theorem eqD_ok {S : Store} (g : Sim D φ S H) {u w : U} {x y : V} {b : Bool} (r : RelU D φ H u x) (s : RelU D φ H w y) (h : eqD S u w = some b) : ∃ d e, Dp D.K H x d ∧ Dp D.K H y e ∧ SeqAt.shaped d = true ∧ SeqAt.shaped e = true ∧ b = PyData.eqv d e := by
  unfold eqD at h
  split at h
  · rename_i d e hd he
    cases h
    obtain ⟨a1, a2, a3⟩ := dat_ok g _ r hd
    obtain ⟨b1, b2, b3⟩ := dat_ok g _ s he
    refine ⟨d, e, a1, b1, ?_, ?_, rfl⟩
    · unfold SeqAt.shaped
      rw [a2, decide_eq_true (Nat.le_trans a3 (by decide))]; rfl
    · unfold SeqAt.shaped
      rw [b2, decide_eq_true (Nat.le_trans b3 (by decide))]; rfl
  · cases h
theorem eq_ok {S : Store} (g : Sim D φ S H) {u w : U} {x y : V} {b : Bool} (r : RelU D φ H u x) (s : RelU D φ H w y) (h : eqU S u w = some b) :
    (scal x y = true ∧ b = decide (x = y)) ∨ ∃ d e, Dp D.K H x d ∧ Dp D.K H y e ∧ SeqAt.shaped d = true ∧ SeqAt.shaped e = true ∧ b = PyData.eqv d e := by
  unfold eqU at h
  split at h
  · cases r; cases s; cases h
    exact .inl ⟨rfl, by simp⟩
  · cases r; cases s; cases h
    exact .inl ⟨rfl, by simp⟩
  · cases r; cases s; cases h
    exact .inl ⟨rfl, by simp⟩
  · cases r; cases s; cases h
    exact .inl ⟨rfl, by simp⟩
  · exact .inr (eqD_ok g r s h)
theorem truV_ok {S : Store} (g : Sim D φ S H) {u : U} {x : V} {b : Bool} (r : RelU D φ H u x) (h : truU S u = some b) : TruV D.K x H b := by
  cases r with
  | non => cases h; rfl
  | bl b => cases h; rfl
  | int i => cases h; rfl
  | str y =>
    unfold truU at h
    dsimp only at h
    split at h
    · rename_i q
      cases h
      refine ⟨by rw [sizeLine_eq]; exact q, ?_⟩
      show (y.length != 0) = ((y.length : Int) != 0)
      cases y.length with
      | zero => rfl
      | succ n =>
        have h1 : ((n + 1 : Nat) != 0) = true := rfl
        have h2 : (((n + 1 : Nat) : Int) != 0) = true := by
          rw [bne_iff_ne]; omega
        rw [h1, h2]
    · cases h
  | tup s r =>
    rename_i us vs a
    cases h
    refine .inr (.inl ⟨vs, s, ?_⟩)
    cases r <;> rfl
  | ref f =>
    rename_i l a
    unfold truU at h
    dsimp only at h
    have fin : ∀ {us : List U}, (S[l]? = some (.lst us) ∨ S[l]? = some (.fz us)) → TruV D.K (.ref a) H (!us.isEmpty) := fun {us} e => by
      obtain ⟨vs, s, r⟩ := g.rd f e
      refine .inl ⟨vs, s, ?_⟩
      cases r <;> rfl
    split at h
    · cases h; exact fin (.inl (by assumption))
    · cases h; exact fin (.inr (by assumption))
    · cases h
      rename_i kvs e
      obtain ⟨gs, h1, r⟩ := g.cell l _ a e f
      refine .inr (.inr ⟨gs, h1, ?_⟩)
      cases r <;> rfl
    · cases h
  | fn f => cases h
end
end PyI
set_option Elab.async false
set_option linter.all false
set_option autoImplicit false
set_option maxRecDepth 100000
set_option maxHeartbeats 2000000
/-! Operators, comparisons, items. -/
namespace PyI
open PySem L2
section
variable {D : Wd} {φ : List Addr} {H : Hp} {S : Store} {u w : U} {x y : V} {Q : VK} {Ex : XK}
abbrev rAddI : R2 := rI0 fun i j => .int (i + j)
abbrev rAddS : R2 := fun x y H Q => ∃ i j, x = .str i ∧ y = .str j ∧ i.length + j.length ≤ sizeLine ∧ Q (.str (i ++ j)) H
abbrev rAdds (K : PySem.W.Frag) : R2 := fun x y H Q => rAddI x y H Q ∨ (rAddS x y H Q ∨ (rCat x y H Q ∨ rCatA K x y H Q))
theorem opAdds {X : Cx} : OpR X (binaryOp .Add) (rAdds X.K) := op_add.or (op_add_str.or (op_cat.or op_catA))
theorem bin_add (g : Sim D φ S H) (r : RelU D φ H u x) (s : RelU D φ H w y) (h : SatR D (binU .add u w S) (RelU D) φ H Q Ex) : rAdds D.K x y H Q := by
  cases r with
  | int i => cases s with
    | int j => exact .inl ⟨i, j, rfl, rfl, h.here g (.int _)⟩
    | _ => exact h.elim
  | str a => cases s with
    | str b =>
      dsimp only [binU] at h
      split at h
      · rename_i q
        exact .inr (.inl ⟨a, b, rfl, rfl, by rw [sizeLine_eq]; exact q, h.here g (.str _)⟩)
      · exact h.elim
    | _ => exact h.elim
  | tup s1 r1 => cases s with
    | tup s2 r2 =>
      rename_i us vs a ws zs b
      dsimp only [binU] at h
      split at h
      · rename_i q
        refine .inr (.inr (.inr ⟨a, b, vs, zs, rfl, rfl, s1, s2, by rw [sizeLine_eq, ← r1.len, ← r2.len]; exact q, ?_⟩))
        have go : ∀ (p : Addr) (H1 : Hp), Tm D H H1 → Sim D φ S H1 → SqT D.K H1 p (vs ++ zs) → Q (.ref p) H1 := fun p H1 tm g1 st =>
          h φ H1 _ (List.prefix_refl _) tm g1 (.tup st ((r1.mono (List.prefix_refl _) tm).app (r2.mono (List.prefix_refl _) tm)))
        have new : ∀ (p : Addr), H p = none → Q (.ref p) (upd H p (.tup (vs ++ zs))) := fun p hp => by
          refine go p _ (Tm.new hp) ⟨g.len, fun l c a e f => ?_, g.inj⟩ (.of upd_same)
          refine (g.cell l c a e f).mono (List.prefix_refl _) (Tm.new hp) (fun t => ?_) (fun o v z => ?_)
          · obtain ⟨o1, h1, _⟩ := (g.cell l c a e f).soft t
            exact upd_ne (ne_of_none h1 hp)
          · rw [upd_ne (ne_of_none z hp)]; exact z
        first
          | exact ⟨fun e => go _ H (Tm.refl _ _) g (by subst e; simpa using s1), fun e => (fun e2 => go _ H (Tm.refl _ _) g (by subst e2; simpa using s2)), fun _ _ p hp => new p hp⟩
          | exact ⟨fun e => go _ H (Tm.refl _ _) g (by subst e; simpa using s1), fun e => go _ H (Tm.refl _ _) g (by subst e; simpa using s2), fun _ _ p hp => new p hp⟩
          | exact ⟨fun e => go _ H (Tm.refl _ _) g (by subst e; simpa using s2), fun e => go _ H (Tm.refl _ _) g (by subst e; simpa using s1), fun _ _ p hp => new p hp⟩
          | exact ⟨fun e => go _ H (Tm.refl _ _) g (by subst e; simpa using s2), fun _ e => go _ H (Tm.refl _ _) g (by subst e; simpa using s1), fun _ _ p hp => new p hp⟩
      · exact h.elim
    | _ => exact h.elim
  | ref f => cases s with
    | ref f2 =>
      rename_i l a l2 b
      dsimp only [binU] at h
      split at h
      · rename_i us ws e1 e2
        obtain ⟨vs, h1, r1⟩ := g.cell l _ a e1 f
        obtain ⟨zs, h2, r2⟩ := g.cell l2 _ b e2 f2
        obtain ⟨hz, q⟩ := h.newL g (r1.app r2)
        exact .inr (.inr (.inl ⟨a, b, vs, zs, rfl, rfl, h1, h2, by rw [List.length_append] at hz; exact hz, q⟩))
      · exact h.elim
    | _ => exact h.elim
  | _ => exact h.elim
theorem bin_sub (g : Sim D φ S H) (r : RelU D φ H u x) (s : RelU D φ H w y) (h : SatR D (binU .sub u w S) (RelU D) φ H Q Ex) : rI0 (fun i j => .int (i - j)) x y H Q := by
  cases r with
  | int i => cases s with
    | int j => exact ⟨i, j, rfl, rfl, h.here g (.int _)⟩
    | _ => exact h.elim
  | _ => cases s <;> exact h.elim
abbrev rRepS : R2 := fun x y H Q => ∃ a k, x = .str a ∧ y = .int k ∧ 1 < k ∧ 0 < a.length ∧ a.length * k.toNat ≤ 16777216 ∧ Q (.str (repS a k)) H
theorem foldl_repN (its : List Nat) : ∀ (k : Nat) (acc : List Nat),
    List.foldl (fun x1 x2 => x1 ++ x2) acc.toArray (List.replicate k its.toArray) = (acc ++ (List.replicate k its).flatten).toArray
  | 0, acc => by simp
  | k + 1, acc => by
    have e : acc.toArray ++ its.toArray = (acc ++ its).toArray := by simp
    have e2 : (acc ++ its) ++ (List.replicate k its).flatten = acc ++ (List.replicate (k + 1) its).flatten := by
      rw [List.replicate_succ, List.flatten_cons, List.append_assoc]
    rw [← e2, ← foldl_repN its k (acc ++ its), ← e, List.replicate_succ, List.foldl_cons]
theorem repS_len (a : PySem.Str) (k : Int) : (repS a k).length = a.length * k.toNat := by
  show (List.flatten _).toArray.size = a.cps.size * _
  simp [Nat.mul_comm]
theorem repS_eq (a : PySem.Str) (k : Int) : (⟨(List.replicate k.toNat a.cps).foldl (· ++ ·) #[]⟩ : PySem.Str) = repS a k := by
  unfold repS
  have h := foldl_repN a.cps.toList k.toNat []
  rw [List.nil_append, Array.toArray_toList] at h
  rw [← h]
theorem op_repS {X : Cx} : OpR X (binaryOp .Mult) rRepS := by
  intro pins s σ H x y v u Q I rx ry h
  obtain ⟨a, k, rfl, rfl, h1, h2, h3, q⟩ := h
  obtain ⟨t, rfl⟩ := rx
  obtain ⟨t', rfl⟩ := ry
  have hk : k.toNat ≤ a.length * k.toNat := Nat.le_mul_of_pos_left _ h2
  have kz : k.toNat ≤ 16777216 := Nat.le_trans hk h3
  have az : a.length ≤ 16777216 := Nat.le_trans (Nat.le_mul_of_pos_right _ (by omega)) h3
  refine PySem.P.mul_str ?_ (fun _ _ => ?_) (fun _ _ => ?_) ?_
  · have k1 : ¬ k < -(2 ^ 63 : Int) := by omega
    have k2 : ¬ k ≥ 2 ^ 63 := by omega
    rw [decide_eq_false k1, decide_eq_false k2]; rfl
  · have h4 : (a.length : Int) ≤ (2 ^ 63 - 1) / k := (Int.le_ediv_iff_mul_le (by omega)).mpr (by
      have h5 : ((a.length * k.toNat : Nat) : Int) ≤ 16777216 := Int.ofNat_le.mpr h3
      rw [Int.natCast_mul, Int.toNat_of_nonneg (by omega)] at h5
      omega)
    omega
  · unfold PySem.Builtin.Str.tooLong
    rw [sizeLine_eq]
    exact decide_eq_false (by omega)
  · rw [if_neg (by omega), if_neg (by
      simp only [Bool.or_eq_true, beq_iff_eq, not_or]
      exact ⟨by omega, by omega⟩), repS_eq]
    exact ⟨by rw [repS_len]; rw [sizeLine_eq]; exact h3, ⟨.str _, H, I.tok _, ⟨_, rfl⟩, q⟩⟩
theorem bin_mul (g : Sim D φ S H) (r : RelU D φ H u x) (s : RelU D φ H w y) (h : SatR D (binU .mul u w S) (RelU D) φ H Q Ex) : rI CMul (fun i j => .int (i * j)) x y H Q ∨ (rRep x y H Q ∨ rRepS x y H Q) := by
  cases r with
  | int i => cases s with
    | int j =>
      dsimp only [binU] at h
      split at h
      · rename_i q
        exact .inl ⟨i, j, rfl, rfl, q.elim (fun z => .inl ⟨by omega, by omega⟩) (fun z => .inr ⟨by omega, by omega⟩), h.here g (.int _)⟩
      · exact h.elim
    | _ => exact h.elim
  | str i => cases s with
    | int j =>
      dsimp only [binU] at h
      split at h
      · rename_i q
        exact .inr (.inr ⟨_, _, rfl, rfl, q.1, q.2.1, q.2.2, h.here g (.str _)⟩)
      · exact h.elim
    | _ => exact h.elim
  | ref f => cases s with
    | int k =>
      rename_i l a
      dsimp only [binU] at h
      split at h
      · rename_i us e1
        split at h
        · rename_i q
          obtain ⟨vs, h1, r1⟩ := g.cell l _ a e1 f
          obtain ⟨hz, q2⟩ := h.newL g (r1.rep k.toNat)
          refine .inr (.inl ⟨a, k, vs, rfl, rfl, h1, by omega, by omega, ?_, q2⟩)
          rw [List.length_flatten, List.map_replicate, List.sum_replicate_nat] at hz
          rw [Nat.mul_comm]
          exact hz
        · exact h.elim
      · exact h.elim
    | _ => exact h.elim
  | _ => cases s <;> exact h.elim
theorem bin_fdiv (g : Sim D φ S H) (r : RelU D φ H u x) (s : RelU D φ H w y) (h : SatR D (binU .fdiv u w S) (RelU D) φ H Q Ex) : rI CDivW (fun i j => .int (i / j)) x y H Q := by
  cases r with
  | int i => cases s with
    | int j =>
      dsimp only [binU] at h
      split at h
      · rename_i q
        exact ⟨i, j, rfl, rfl, wide_div (b := 64) q.1 (by omega) (by decide) (by decide), h.here g (.int _)⟩
      · exact h.elim
    | _ => exact h.elim
  | _ => cases s <;> exact h.elim
theorem bin_mod (g : Sim D φ S H) (r : RelU D φ H u x) (s : RelU D φ H w y) (h : SatR D (binU .mod u w S) (RelU D) φ H Q Ex) : rI (fun _ j => 0 < j) (fun i j => .int (i % j)) x y H Q := by
  cases r with
  | int i => cases s with
    | int j =>
      dsimp only [binU] at h
      split at h
      · rename_i q
        exact ⟨i, j, rfl, rfl, q, h.here g (.int _)⟩
      · exact h.elim
    | _ => exact h.elim
  | _ => cases s <;> exact h.elim
theorem bin_band (g : Sim D φ S H) (r : RelU D φ H u x) (s : RelU D φ H w y) (h : SatR D (binU .band u w S) (RelU D) φ H Q Ex) : ∃ (i : Int) (k : Nat), x = .int i ∧ y = .int (2 ^ k - 1) ∧ Q (.int (i % 2 ^ k)) H := by
  cases r with
  | int i => cases s with
    | int j =>
      dsimp only [binU] at h
      split at h
      · rename_i q
        subst q
        exact ⟨i, 8, rfl, by decide, h.here g (.int _)⟩
      · exact h.elim
    | _ => exact h.elim
  | _ => cases s <;> exact h.elim

/-! ### comparisons -/
abbrev rCEq (K : PySem.W.Frag) : R2 := fun x y H Q => rEq x y H Q ∨ rEqD K x y H Q
abbrev rCNe (K : PySem.W.Frag) : R2 := fun x y H Q => rNe x y H Q ∨ rNeD K x y H Q
theorem cmp_eq (g : Sim D φ S H) (r : RelU D φ H u x) (s : RelU D φ H w y) (h : SatR D (ofO S ((cmpU S .eq u w).map .bl)) (RelU D) φ H Q Ex) : rCEq D.K x y H Q := by
  obtain ⟨z, hz, h⟩ := h.ofO
  obtain ⟨b, hb, rfl⟩ := Option.map_eq_some_iff.mp hz
  have q := h.here g (.bl b)
  rcases eq_ok g r s hb with ⟨h1, rfl⟩ | ⟨d, e, h1, h2, h3, h4, rfl⟩
  · exact .inl ⟨h1, q⟩
  · exact .inr ⟨d, e, h1, h2, h3, h4, q⟩
theorem cmp_ne (g : Sim D φ S H) (r : RelU D φ H u x) (s : RelU D φ H w y) (h : SatR D (ofO S ((cmpU S .ne u w).map .bl)) (RelU D) φ H Q Ex) : rCNe D.K x y H Q := by
  obtain ⟨z, hz, h⟩ := h.ofO
  obtain ⟨b0, hb0, rfl⟩ := Option.map_eq_some_iff.mp hz
  obtain ⟨b, hb, rfl⟩ := Option.map_eq_some_iff.mp hb0
  have q := h.here g (.bl _)
  rcases eq_ok g r s hb with ⟨h1, rfl⟩ | ⟨d, e, h1, h2, h3, h4, rfl⟩
  · exact .inl ⟨h1, q⟩
  · exact .inr ⟨d, e, h1, h2, h3, h4, q⟩
theorem cmp_int {o : Cop} {p : Int → Int → Bool} (ho : ∀ u w : U, (∃ i j, u = .int i ∧ w = .int j ∧ cmpU S o u w = some (p i j)) ∨ cmpU S o u w = none) (g : Sim D φ S H) (r : RelU D φ H u x) (s : RelU D φ H w y) (h : SatR D (ofO S ((cmpU S o u w).map .bl)) (RelU D) φ H Q Ex) : rI0 (fun i j => .bl (p i j)) x y H Q := by
  rcases ho u w with ⟨i, j, rfl, rfl, e⟩ | e
  · rw [e] at h
    cases r; cases s
    exact ⟨i, j, rfl, rfl, SatR.here (u := U.bl (p i j)) h g (.bl _)⟩
  · rw [e] at h
    exact h.elim
abbrev rIsNo : R2 := fun x y H Q => y = .non ∧ Q (.bl (decide (x = .non))) H
abbrev rNotNo : R2 := fun x y H Q => y = .non ∧ Q (.bl (!decide (x = .non))) H
theorem cmp_isN (g : Sim D φ S H) (r : RelU D φ H u x) (s : RelU D φ H w y) (h : SatR D (ofO S ((cmpU S .isN u w).map .bl)) (RelU D) φ H Q Ex) : rIsNo x y H Q := by
  obtain ⟨z, hz, h⟩ := h.ofO
  obtain ⟨b, hb, rfl⟩ := Option.map_eq_some_iff.mp hz
  have q := h.here g (.bl b)
  cases s <;> cases r <;> first | (cases hb; exact ⟨rfl, q⟩) | (cases hb)
abbrev rIsBo : R2 := fun x y H Q => ∃ a b, x = V.bl a ∧ y = V.bl b ∧ Q (V.bl (decide (a = b))) H
abbrev rNotBo : R2 := fun x y H Q => ∃ a b, x = V.bl a ∧ y = V.bl b ∧ Q (V.bl (!decide (a = b))) H
theorem cmp_isB (g : Sim D φ S H) (r : RelU D φ H u x) (s : RelU D φ H w y) (h : SatR D (ofO S ((cmpU S .is u w).map .bl)) (RelU D) φ H Q Ex) : rIsBo x y H Q := by
  obtain ⟨z, hz, h⟩ := h.ofO
  obtain ⟨b, hb, rfl⟩ := Option.map_eq_some_iff.mp hz
  have q := h.here g (.bl b)
  cases s <;> cases r <;> first | (cases hb; exact ⟨_, _, rfl, rfl, q⟩) | (cases hb)
theorem cmp_notB (g : Sim D φ S H) (r : RelU D φ H u x) (s : RelU D φ H w y) (h : SatR D (ofO S ((cmpU S .isnot u w).map .bl)) (RelU D) φ H Q Ex) : rNotBo x y H Q := by
  obtain ⟨z, hz, h⟩ := h.ofO
  obtain ⟨b, hb, rfl⟩ := Option.map_eq_some_iff.mp hz
  have q := h.here g (.bl b)
  cases s <;> cases r <;> first | (cases hb; exact ⟨_, _, rfl, rfl, q⟩) | (cases hb)
theorem cmp_notN (g : Sim D φ S H) (r : RelU D φ H u x) (s : RelU D φ H w y) (h : SatR D (ofO S ((cmpU S .notN u w).map .bl)) (RelU D) φ H Q Ex) : rNotNo x y H Q := by
  obtain ⟨z, hz, h⟩ := h.ofO
  obtain ⟨b, hb, rfl⟩ := Option.map_eq_some_iff.mp hz
  have q := h.here g (.bl b)
  cases s <;> cases r <;> first | (cases hb; exact ⟨rfl, q⟩) | (cases hb)
end
end PyI
set_option Elab.async false
set_option linter.all false
set_option autoImplicit false
set_option maxRecDepth 100000
set_option maxHeartbeats 2000000
/-! Items, slices, built-ins, methods of lists. -/
namespace PyI
open PySem L2
section
variable {D : Wd} {φ : List Addr} {H : Hp} {S : Store} {u w : U} {x y : V} {Q : VK} {Ex : XK}
/-- a new tuple is nothing to the store -/
theorem Sim.tupNew (g : Sim D φ S H) {p : Addr} {vs : List V} (hp : H p = none) : Sim D φ S (upd H p (.tup vs)) := by
  refine ⟨g.len, fun l c a e f => ?_, g.inj⟩
  refine (g.cell l c a e f).mono (List.prefix_refl _) (Tm.new hp) (fun t => ?_) (fun o v z => ?_)
  · obtain ⟨o1, h1, _⟩ := (g.cell l c a e f).soft t
    exact upd_ne (ne_of_none h1 hp)
  · rw [upd_ne (ne_of_none z hp)]; exact z
theorem SatR.newT {us : List U} {vs : List V} (h : SatR D (.val (.tup us) S) (RelU D) φ H Q Ex) (g : Sim D φ S H) (r : RelUs D φ H us vs) : ∀ p, H p = none → Q (.ref p) (upd H p (.tup vs)) := fun p hp =>
  h φ _ _ (List.prefix_refl _) (Tm.new hp) (g.tupNew hp) (.tup (.of upd_same) (r.mono (List.prefix_refl _) (Tm.new hp)))

/-! ### dicts -/
theorem keyK_iff {a b : Key} : keyK a = keyK b ↔ a = b := ⟨keyK_inj, fun h => by rw [h]⟩
theorem RelK.get {kvs : List (Key × U)} {gs : List (L2.Key × V)} (k : Key) (r : RelK D φ H kvs gs) : (getK k kvs = none ∧ valV gs (keyK k) = none) ∨ ∃ u v, getK k kvs = some u ∧ valV gs (keyK k) = some v ∧ RelU D φ H u v := by
  induction kvs generalizing gs with
  | nil => cases r; exact .inl ⟨rfl, rfl⟩
  | cons p kvs ih =>
    cases r with
    | @cons k' u v _ gs a r =>
      by_cases e : k' = k
      · refine .inr ⟨u, v, ?_, valV_pos (p := (keyK k', v)) (by rw [e]), a⟩
        unfold getK
        rw [List.find?_cons_of_pos (by simp [e])]
        rfl
      · have e1 : getK k ((k', u) :: kvs) = getK k kvs := by
          unfold getK
          rw [List.find?_cons_of_neg (by simp [e])]
        have e2 : valV ((keyK k', v) :: gs) (keyK k) = valV gs (keyK k) := valV_neg (p := (keyK k', v)) (fun h => e (keyK_inj h))
        rw [e1, e2]
        exact ih r
theorem RelK.any {kvs : List (Key × U)} {gs : List (L2.Key × V)} (k : Key) (r : RelK D φ H kvs gs) : (kvs.any fun p => decide (p.1 = k)) = gs.any fun p => decide (p.1 = keyK k) := by
  induction kvs generalizing gs with
  | nil => cases r; rfl
  | cons p kvs ih =>
    cases r with
    | @cons k' u v _ gs a r =>
      rw [List.any_cons, List.any_cons, ih r]
      simp only [keyK_iff]
theorem RelK.app {kvs kvs' : List (Key × U)} {gs gs' : List (L2.Key × V)} (r : RelK D φ H kvs gs) (r' : RelK D φ H kvs' gs') : RelK D φ H (kvs ++ kvs') (gs ++ gs') := by
  induction kvs generalizing gs with
  | nil => cases r; exact r'
  | cons p kvs ih => cases r with | cons a r => exact .cons a (ih r)
theorem RelK.put {kvs : List (Key × U)} {gs : List (L2.Key × V)} (k : Key) {u : U} {v : V} (a : RelU D φ H u v) (r : RelK D φ H kvs gs) : RelK D φ H (putKV k u kvs) (L2.putK gs (keyK k) v) := by
  unfold putKV L2.putK
  rw [r.any k]
  split
  · rename_i h
    clear h
    induction kvs generalizing gs with
    | nil => cases r; exact .nil
    | cons p kvs ih =>
      cases r with
      | @cons k' w x _ gs b r =>
        rw [List.map_cons, List.map_cons]
        by_cases e : k' = k
        · rw [if_pos e, if_pos (by rw [e])]
          exact .cons a (ih r)
        · rw [if_neg e, if_neg (fun h => e (keyK_inj h))]
          exact .cons b (ih r)
  · exact r.app (.cons a .nil)
theorem RelK.drop {kvs : List (Key × U)} {gs : List (L2.Key × V)} (k : Key) (r : RelK D φ H kvs gs) : RelK D φ H (dropKV k kvs) (L2.dropK gs (keyK k)) := by
  unfold dropKV L2.dropK
  induction kvs generalizing gs with
  | nil => cases r; exact .nil
  | cons p kvs ih =>
    cases r with
    | @cons k' w x _ gs b r =>
      by_cases e : k' = k
      · rw [List.filter_cons_of_neg (by simp [e]), List.filter_cons_of_neg (by simp [e])]
        exact ih r
      · rw [List.filter_cons_of_pos (by simp [e]), List.filter_cons_of_pos (by simp [keyK_iff, e])]
        exact .cons b (ih r)
theorem key_val {k : Key} (h : keyU w = some k) (s : RelU D φ H w y) : y = kV (keyK k) := by
  cases s <;> first | (cases h; rfl) | cases h
theorem dct_at (g : Sim D φ S H) (s : RelU D φ H w y) {kvs : List (Key × U)} (h : dctU S w = some kvs) : ∃ l a gs, w = .ref l ∧ y = .ref a ∧ S[l]? = some (.dct kvs) ∧ φ[l]? = some a ∧ H a = some (.dK gs) ∧ RelK D φ H kvs gs := by
  cases s with
  | ref f =>
    rename_i l a
    unfold dctU at h
    dsimp only at h
    split at h
    · rename_i e
      cases h
      obtain ⟨gs, h1, h2⟩ := g.cell l _ a e f
      exact ⟨l, a, gs, rfl, rfl, e, f, h1, h2⟩
    · cases h
  | _ => cases h
abbrev rDIn : R2 := fun x y H Q => ∃ a o, y = .ref a ∧ DGet H a x o ∧ Q (.bl o.isSome) H
abbrev rDNotIn : R2 := fun x y H Q => ∃ a o, y = .ref a ∧ DGet H a x o ∧ Q (.bl (!o.isSome)) H
theorem op_din {X : Cx} (hu : X.A.units + 1 < cLine) : OpR X (compareOp .In) rDIn := by
  intro pins s σ H x y v u Q I rx ry h
  obtain ⟨a, o, rfl, g, q⟩ := h
  obtain rfl : u = Value.ref a := ry
  exact d_in hu I g rx fun s' I' => ⟨.bl o.isSome, H, I', rfl, q⟩
theorem op_dnotin {X : Cx} (hu : X.A.units + 1 < cLine) : OpR X (compareOp .NotIn) rDNotIn := by
  intro pins s σ H x y v u Q I rx ry h
  obtain ⟨a, o, rfl, g, q⟩ := h
  obtain rfl : u = Value.ref a := ry
  exact d_notIn hu I g rx fun s' I' => ⟨.bl (!o.isSome), H, I', rfl, q⟩
abbrev rIxDk : R2 := fun x y H Q => ∃ a v, x = .ref a ∧ DGet H a y (some v) ∧ Q v H
theorem ix_dct {X : Cx} (hu : X.A.units + 1 < cLine) : IxR X rIxDk := by
  intro value slice pins s σ H x y v u Q I rx ry h hs
  obtain ⟨a, z, rfl, g, q⟩ := h
  obtain rfl : v = Value.ref a := rx
  exact PyProof.Rows.tail_any (dict_typeIs I g) PySem.F.slot_dict_getitem.lookup (d_getItem hu I g ry fun w' s' I' rw' => ⟨z, H, I', rw', q⟩) hs
/-! ### in -/
abbrev rMemS : R2 := fun x y H Q => ∃ (c : Nat) (z : PySem.Str), x = .str ⟨#[c]⟩ ∧ y = .str z ∧ Q (.bl (decide (c ∈ z.cps.toList))) H
abbrev rNmemS : R2 := fun x y H Q => ∃ (c : Nat) (z : PySem.Str), x = .str ⟨#[c]⟩ ∧ y = .str z ∧ Q (.bl (!decide (c ∈ z.cps.toList))) H
abbrev rMem (K : PySem.W.Frag) : R2 := fun x y H Q => rMemS x y H Q ∨ (rIn K false x y H Q ∨ (rInD K x y H Q ∨ rDIn x y H Q))
abbrev rNmem (K : PySem.W.Frag) : R2 := fun x y H Q => rNmemS x y H Q ∨ (rIn K true x y H Q ∨ (rNotInD K x y H Q ∨ rDNotIn x y H Q))
theorem memD_ok (g : Sim D φ S H) (r : RelU D φ H u x) (s : RelU D φ H w y) {b : Bool} (h : memD S u w = some b) : ∃ a o, y = .ref a ∧ DGet H a x o ∧ b = o.isSome := by
  unfold memD at h
  split at h
  · rename_i kvs k h1 h2
    cases h
    obtain ⟨l, a, gs, rfl, rfl, e, f, h3, rk⟩ := dct_at g s h1
    have ex := key_val h2 r
    subst ex
    refine ⟨a, _, rfl, DGet.k h3, ?_⟩
    rcases rk.get k with ⟨e1, e2⟩ | ⟨p, q, e1, e2, _⟩ <;> rw [e1, e2] <;> rfl
  · cases h
theorem str_of1 {a : PySem.Str} {c : Nat} (h : a.cps.toList = [c]) : a = ⟨#[c]⟩ := by
  cases a with
  | mk cps =>
    have : cps = #[c] := by
      apply Array.ext'
      simpa using h
    rw [this]
theorem flV {u : U} {x : V} (r : RelU D φ H u x) (h : flU u = true) : flatV x = true := by
  cases r <;> first | rfl | cases h
theorem flVs {us : List U} : ∀ {vs : List V}, RelUs D φ H us vs → us.all flU = true → vs.all flatV = true := by
  induction us with
  | nil => intro vs r _; cases r; rfl
  | cons u us ih =>
    intro vs r h
    cases r with
    | cons a r =>
      rw [List.all_cons, Bool.and_eq_true] at h
      rw [List.all_cons, flV a h.1, ih r h.2]; rfl
theorem eqF_ok {u w : U} {x y : V} (r : RelU D φ H u x) (s : RelU D φ H w y) (f1 : flU u = true) (f2 : flU w = true) : eqF u w = eqV x y := by
  cases r <;> cases s <;> first | rfl | cases f1 | cases f2
theorem anyF_ok {xs : List U} {vs : List V} {u : U} {x : V} (rs : RelUs D φ H xs vs) (r : RelU D φ H u x) (f1 : flU u = true) (f2 : xs.all flU = true) : (xs.any fun z => eqF z u) = inV x vs := by
  induction xs generalizing vs with
  | nil => cases rs; rfl
  | cons z xs ih =>
    cases rs with
    | cons a rs =>
      rw [List.all_cons, Bool.and_eq_true] at f2
      rw [List.any_cons, ih rs f2.2, eqF_ok a r f2.1 f1]; rfl
theorem memI_ok (g : Sim D φ S H) (r : RelU D φ H u x) (s : RelU D φ H w y) {b : Bool} (h : memI S u w = some b) :
    (∃ p xs, y = .ref p ∧ (SqL D.K H p xs ∨ SqT D.K H p xs) ∧ flatV x = true ∧ xs.all flatV = true ∧ b = inV x xs) ∨
    (∃ d ds, Dp D.K H x d ∧ Dp D.K H y (.list ds) ∧ SeqAt.shaped d = true ∧ SeqAt.shaped (.list ds) = true ∧ b = ds.any fun z => PyData.eqv z d) := by
  unfold memI at h
  split at h
  · rename_i us hi
    split at h
    · rename_i q
      cases h
      obtain ⟨a, vs, rfl, h1, h2⟩ := g.items s hi
      exact .inl ⟨a, vs, rfl, h1, flV r q.1, flVs h2 q.2, anyF_ok h2 r q.1 q.2⟩
    · split at h
      · split at h
        · rename_i d ds h1 h2
          cases h
          obtain ⟨a1, a2, a3⟩ := dat_ok g _ r h1
          obtain ⟨b1, b2, b3⟩ := dat_ok g _ s h2
          refine .inr ⟨d, ds, a1, b1, ?_, ?_, rfl⟩
          · unfold SeqAt.shaped
            rw [a2, decide_eq_true (Nat.le_trans a3 (by decide))]; rfl
          · unfold SeqAt.shaped
            rw [b2, decide_eq_true (Nat.le_trans b3 (by decide))]; rfl
        · cases h
      · cases h
  · cases h
theorem cmp_mem (g : Sim D φ S H) (r : RelU D φ H u x) (s : RelU D φ H w y) (h : SatR D (ofO S ((cmpU S .mem u w).map .bl)) (RelU D) φ H Q Ex) : rMem D.K x y H Q := by
  obtain ⟨z, hz, h⟩ := h.ofO
  obtain ⟨b, hb, rfl⟩ := Option.map_eq_some_iff.mp hz
  have q := h.here g (.bl b)
  dsimp only [cmpU, memU] at hb
  split at hb
  · split at hb
    · rename_i e
      cases hb
      cases r; cases s
      exact .inl ⟨_, _, congrArg V.str (str_of1 e), rfl, q⟩
    · cases hb
  · split at hb
    · obtain ⟨a, o, e, gd, e2⟩ := memD_ok g r s hb
      rw [e2] at q
      exact .inr (.inr (.inr ⟨a, o, e, gd, q⟩))
    · rcases memI_ok g r s hb with ⟨p, xs, e, h1, h2, h3, e2⟩ | ⟨d, ds, h1, h2, h3, h4, e2⟩
      · rw [e2] at q
        exact .inr (.inl ⟨p, xs, e, h1, h2, h3, q⟩)
      · rw [e2] at q
        exact .inr (.inr (.inl ⟨d, ds, h1, h2, h3, h4, q⟩))
theorem cmp_nmem (g : Sim D φ S H) (r : RelU D φ H u x) (s : RelU D φ H w y) (h : SatR D (ofO S ((cmpU S .nmem u w).map .bl)) (RelU D) φ H Q Ex) : rNmem D.K x y H Q := by
  obtain ⟨z, hz, h⟩ := h.ofO
  obtain ⟨b0, hb0, rfl⟩ := Option.map_eq_some_iff.mp hz
  obtain ⟨b, hb, rfl⟩ := Option.map_eq_some_iff.mp hb0
  have q := h.here g (.bl _)
  dsimp only [memU] at hb
  split at hb
  · split at hb
    · rename_i e
      cases hb
      cases r; cases s
      exact .inl ⟨_, _, congrArg V.str (str_of1 e), rfl, q⟩
    · cases hb
  · split at hb
    · obtain ⟨a, o, e, gd, e2⟩ := memD_ok g r s hb
      rw [e2] at q
      exact .inr (.inr (.inr ⟨a, o, e, gd, q⟩))
    · rcases memI_ok g r s hb with ⟨p, xs, e, h1, h2, h3, e2⟩ | ⟨d, ds, h1, h2, h3, h4, e2⟩
      · rw [e2] at q
        exact .inr (.inl ⟨p, xs, e, h1, h2, h3, q⟩)
      · rw [e2] at q
        exact .inr (.inr (.inl ⟨d, ds, h1, h2, h3, h4, q⟩))

/-! ### items, slices -/
theorem atU_atI {α : Type} (xs : List α) (i : Int) : atU xs i = atI xs i := by
  unfold atU atI ixN
  split
  · split <;> rfl
  · split <;> rfl
theorem atI_rel {us : List U} {vs : List V} (r : RelUs D φ H us vs) {i : Int} {u : U} (h : atU us i = some u) : ∃ v, atI vs i = some v ∧ RelU D φ H u v := by
  rw [atU_atI] at h
  unfold atI at h ⊢
  rw [← r.len]
  cases q : ixN us.length i with
  | none => rw [q] at h; cases h
  | some j =>
    rw [q] at h
    exact r.at h
theorem ix_ok (g : Sim D φ S H) (r : RelU D φ H u x) (s : RelU D φ H w y) (h : SatR D (ofO S (ixU S u w)) (RelU D) φ H Q Ex) : rIx D.K x y H Q ∨ rIxDk x y H Q := by
  obtain ⟨z, hz, hv⟩ := h.ofO
  cases r with
  | str a =>
    cases s with
    | int i =>
      dsimp only [ixU] at hz
      split at hz
      · rename_i q
        obtain ⟨c, hc, rfl⟩ := Option.map_eq_some_iff.mp hz
        rw [atU_atI] at hc
        exact .inl (.inr (.inr ⟨a, i, c, rfl, rfl, by rw [sizeLine_eq]; exact q, hc, hv.here g (.str _)⟩))
      · cases hz
    | _ => cases hz
  | tup st rs =>
    cases s with
    | int i =>
      dsimp only [ixU] at hz
      obtain ⟨v, h1, h2⟩ := atI_rel rs hz
      exact .inl (.inr (.inl ⟨_, _, i, v, rfl, rfl, st, h1, hv.here g h2⟩))
    | _ => cases hz
  | ref f =>
    rename_i l a
    dsimp only [ixU] at hz
    have fin : ∀ {us : List U} {i : Int}, (S[l]? = some (.lst us) ∨ S[l]? = some (.fz us)) → y = .int i → atU us i = some z → rIx D.K (.ref a) y H Q ∨ rIxDk (.ref a) y H Q := fun {us i} e ey hz => by
      obtain ⟨vs, h1, rs⟩ := g.rd f e
      obtain ⟨v, h2, h3⟩ := atI_rel rs hz
      exact .inl (.inl ⟨a, vs, i, v, rfl, ey, h1, h2, hv.here g h3⟩)
    split at hz
    · split at hz
      · cases s; exact fin (.inl (by assumption)) rfl hz
      · cases hz
    · split at hz
      · cases s; exact fin (.inr (by assumption)) rfl hz
      · cases hz
    · rename_i kvs e
      split at hz
      · rename_i k hk
        obtain ⟨gs, h1, rk⟩ := g.cell l _ a e f
        have ey := key_val hk s
        subst ey
        rcases rk.get k with ⟨e1, e2⟩ | ⟨p, q, e1, e2, rp⟩
        · rw [e1] at hz; cases hz
        · rw [e1] at hz
          cases hz
          exact .inr ⟨a, q, rfl, by rw [← e2]; exact DGet.k h1, hv.here g rp⟩
      · cases hz
    · cases hz
  | _ => cases hz
theorem sIx_eq (n d : Nat) (o : Option Int) : sIxU n d o = HT.sIx n d o := by
  cases o <;> rfl
theorem cutU_eq {us : List U} {vs : List V} (r : RelUs D φ H us vs) (lo hi : Option Int) : RelUs D φ H (cutU us lo hi) (cutV vs lo hi) := by
  unfold cutU cutV
  rw [sIx_eq, sIx_eq, r.len]
  exact (r.drop _).take _
abbrev rCut (K : PySem.W.Frag) : V → Option Int → Option Int → Hp → VK → Prop := fun x lo hi H Q => rSlL K x lo hi H Q ∨ (rSlA K x lo hi H Q ∨ rSlS x lo hi H Q)
theorem cut_ok {lo hi : Option Int} (g : Sim D φ S H) (r : RelU D φ H u x) (h : SatR D (cutE u lo hi S) (RelU D) φ H Q Ex) : rCut D.K x lo hi H Q := by
  cases r with
  | tup st rs =>
    rename_i us vs a
    dsimp only [cutE] at h
    refine .inr (.inl ⟨a, vs, rfl, st, fun q => ?_, fun _ p hp => h.newT g (cutU_eq rs lo hi) p hp⟩)
    have e : cutV vs lo hi = vs := by
      unfold cutV
      rw [q.1, q.2, List.drop_zero, Nat.sub_zero, List.take_length]
    refine h.here g (.tup (vs := cutV vs lo hi) ?_ (cutU_eq rs lo hi))
    rw [e]; exact st
  | ref f =>
    rename_i l a
    dsimp only [cutE] at h
    split at h
    · rename_i us e
      obtain ⟨vs, h1, rs⟩ := g.rd f (.inl e)
      exact .inl ⟨a, vs, rfl, h1, h.newC g (cutU_eq rs lo hi)⟩
    · rename_i us e
      obtain ⟨vs, h1, rs⟩ := g.rd f (.inr e)
      exact .inl ⟨a, vs, rfl, h1, h.newC g (cutU_eq rs lo hi)⟩
    · exact h.elim
  | str z =>
    dsimp only [cutE] at h
    split at h
    · rename_i q
      refine .inr (.inr ⟨z, rfl, by rw [sizeLine_eq]; exact q, ?_⟩)
      have e : (⟨(cutU z.cps.toList lo hi).toArray⟩ : PySem.Str) = cutS z lo hi := by
        unfold cutU cutS
        rw [sIx_eq, sIx_eq]
        rfl
      rw [← e]
      exact h.here g (.str _)
    · exact h.elim
  | _ => exact h.elim
end
end PyI
set_option Elab.async false
set_option linter.all false
set_option autoImplicit false
set_option maxRecDepth 100000
set_option maxHeartbeats 2000000
/-! Built-ins and methods of lists. -/
namespace PyI
open PySem L2
section
variable {D : Wd} {φ : List Addr} {H : Hp} {S : Store} {u w : U} {x y : V} {Q : VK} {Ex : XK}
theorem sorted_same : ∀ {a b : List Int}, a.Perm b → a.Pairwise (· ≤ ·) → b.Pairwise (· ≤ ·) → a = b
  | [], b, p, _, _ => (List.Perm.nil_eq p)
  | x :: a, [], p, _, _ => absurd p.length_eq (by simp)
  | x :: a, y :: b, p, ha, hb => by
    have e : x = y := by
      have h1 : x ∈ y :: b := p.subset List.mem_cons_self
      have h2 : y ∈ x :: a := p.symm.subset List.mem_cons_self
      rw [List.pairwise_cons] at ha hb
      rcases List.mem_cons.mp h1 with e | h1
      · exact e
      · rcases List.mem_cons.mp h2 with e | h2
        · exact e.symm
        · have a1 := ha.1 y h2
          have a2 := hb.1 x h1
          omega
    subst e
    rw [List.pairwise_cons] at ha hb
    rw [sorted_same (List.Perm.cons_inv p) ha.2 hb.2]
theorem leS_iff (a b : PySem.Str) : leS a b = true ↔ a.cps.toList ≤ b.cps.toList := by
  unfold leS
  simp [List.not_lt]
theorem leS_trans (a b c : PySem.Str) (h1 : leS a b = true) (h2 : leS b c = true) : leS a c = true := by
  rw [leS_iff] at *
  exact List.le_trans h1 h2
theorem leS_total (a b : PySem.Str) : (leS a b || leS b a) = true := by
  have h := List.le_total a.cps.toList b.cps.toList
  rw [← leS_iff, ← leS_iff] at h
  simpa using h
theorem leS_anti {a b : PySem.Str} (h1 : leS a b = true) (h2 : leS b a = true) : a = b := by
  rw [leS_iff] at *
  have h := List.le_antisymm h1 h2
  cases a; cases b
  simp at h
  rw [h]
theorem rising_pw : ∀ (xs : List PySem.Str) (p : PySem.Str), PyProof.Rows.risingS p xs = true → (∀ x ∈ xs, leS p x = true) ∧ xs.Pairwise (fun a b => leS a b = true)
  | [], _, _ => ⟨(fun _ h => by cases h), List.Pairwise.nil⟩
  | x :: xs, p, h => by
    unfold PyProof.Rows.risingS at h
    rw [Bool.and_eq_true] at h
    obtain ⟨h1, h2⟩ := rising_pw xs x h.2
    have h0 : leS p x = true := by
      have := h.1
      rw [PyProof.Rows.ltCps_eq] at this
      exact this
    refine ⟨fun y hy => ?_, List.pairwise_cons.mpr ⟨h1, h2⟩⟩
    rcases List.mem_cons.mp hy with e | hy
    · exact e ▸ h0
    · exact leS_trans _ _ _ h0 (h1 y hy)
theorem sortedS_pw {xs : List PySem.Str} (h : PyProof.Rows.sortedS xs = true) : xs.Pairwise (fun a b => leS a b = true) := by
  cases xs with
  | nil => exact .nil
  | cons x xs =>
    obtain ⟨h1, h2⟩ := rising_pw xs x h
    exact List.pairwise_cons.mpr ⟨h1, h2⟩
theorem sortedS_same : ∀ {a b : List PySem.Str}, a.Perm b → a.Pairwise (fun a b => leS a b = true) → b.Pairwise (fun a b => leS a b = true) → a = b
  | [], b, p, _, _ => (List.Perm.nil_eq p)
  | x :: a, [], p, _, _ => absurd p.length_eq (by simp)
  | x :: a, y :: b, p, ha, hb => by
    have e : x = y := by
      have h1 : x ∈ y :: b := p.subset List.mem_cons_self
      have h2 : y ∈ x :: a := p.symm.subset List.mem_cons_self
      rw [List.pairwise_cons] at ha hb
      rcases List.mem_cons.mp h1 with e | h1
      · exact e
      · rcases List.mem_cons.mp h2 with e | h2
        · exact e.symm
        · exact leS_anti (ha.1 y h2) (hb.1 x h1)
    subst e
    rw [List.pairwise_cons] at ha hb
    rw [sortedS_same (List.Perm.cons_inv p) ha.2 hb.2]
theorem sortS_perm (xs : List PySem.Str) : (sortS xs).Perm xs := List.mergeSort_perm xs _
theorem sortS_up (xs : List PySem.Str) : (sortS xs).Pairwise (fun a b => leS a b = true) := List.pairwise_mergeSort leS_trans leS_total xs
theorem sortI_perm (ns : List Int) : (sortI ns).Perm ns := List.mergeSort_perm ns _
theorem sortI_up (ns : List Int) : (sortI ns).Pairwise (· ≤ ·) := by
  have h := List.pairwise_mergeSort (le := fun a b : Int => decide (a ≤ b)) (fun a b c h1 h2 => by simp at *; omega) (fun a b => by simp; omega) ns
  exact h.imp (fun h => by simpa using h)
abbrev RC := List V → Hp → VK → Prop
abbrev rInt : RC := fun xs H Q => (∃ i, xs = [.int i] ∧ Q (.int i) H) ∨ ∃ k, xs = [.bl k] ∧ Q (.int (if k then 1 else 0)) H
abbrev rAbs : RC := fun xs H Q => ∃ i, xs = [.int i] ∧ Q (.int (if i < 0 then -i else i)) H
abbrev rMin2 : RC := fun xs H Q => ∃ i j, xs = [.int i, .int j] ∧ Q (.int (if j < i then j else i)) H
abbrev rMax2 : RC := fun xs H Q => (∃ i j, xs = [.int i, .int j] ∧ Q (.int (if j > i then j else i)) H) ∨ ∃ x y w z, xs = [x, y, w] ∧ nuMax3 x y w = some z ∧ Q z H
abbrev rStrI : RC := fun xs H Q => ∃ i, xs = [V.int i] ∧ i.natAbs.log2 < 1920 ∧ Q (V.str (PySem.Str.ofString (toString i))) H
abbrev rLenX (K : PySem.W.Frag) : RC := fun xs H Q => (∃ x n, xs = [x] ∧ LenV K x H n ∧ Q (.int n) H) ∨ (∃ a kvs, xs = [V.ref a] ∧ H a = some (.dK kvs) ∧ Q (.int kvs.length) H)
abbrev rListOf (K : PySem.W.Frag) : RC := fun xs H Q => ∃ p ys, xs = [.ref p] ∧ (SqL K H p ys ∨ SqT K H p ys) ∧ ∀ l, H l = none → Q (.ref l) (upd H l (.lst ys))
abbrev rTupOf (K : PySem.W.Frag) : RC := fun xs H Q => ∃ p ys, xs = [.ref p] ∧ ((SqL K H p ys ∧ ∀ l, H l = none → Q (.ref l) (upd H l (.tup ys))) ∨ (SqT K H p ys ∧ Q (.ref p) H))
abbrev rOrd : RC := fun xs H Q => ∃ x : PySem.Str, xs = [.str x] ∧ x.length = 1 ∧ Q (.int (x.cps.getD 0 0 : Nat)) H
abbrev rListDct : RC := fun xs H Q => ∃ (a : Addr) (kvs : List (L2.Key × V)), xs = [.ref a] ∧ Rd H a (.dK kvs) ∧ ∀ p, H p = none → Q (.ref p) (upd H p (.lst (kvs.map fun kv => kV kv.1)))
abbrev rDictOf : RC := fun xs H Q => ∃ (a : Addr) (kvs : List (L2.Key × V)), xs = [.ref a] ∧ Rd H a (.dK kvs) ∧ ∀ p, H p = none → Q (.ref p) (upd H p (.dK kvs))
abbrev rRvl (K : PySem.W.Frag) : RC := fun xs H Q => ∃ p ys, xs = [.ref p] ∧ SqL K H p ys ∧ ∀ l, H l = none → Q (.ref l) (upd H l (.lst ys.reverse))
/-- what a built-in asks -/
def rBi (K : PySem.W.Frag) : Bi → RC
  | .len => rLenX K
  | .int => rInt
  | .abs => rAbs
  | .min => rMin2
  | .max => rMax2
  | .sum => rSum K
  | .all => rAll K
  | .any => rAny K
  | .list => fun xs H Q => rListOf K xs H Q ∨ rListDct xs H Q
  | .dictOf => rDictOf
  | .tuple => rTupOf K
  | .sorted => fun xs H Q => rSortedI K xs H Q ∨ rSortedS K xs H Q
  | .ord => rOrd
  | .minL => rMin K
  | .str => rStrI
  | .rvl => rRvl K
  | _ => fun _ _ _ => False
/-- its value, its name -/
def biV : Bi → Option (PySem.Str × Value)
  | .len => some ("len", .builtin "len")
  | .int => some ("int", .type "int")
  | .abs => some ("abs", .builtin "abs")
  | .min => some ("min", .builtin "min")
  | .max => some ("max", .builtin "max")
  | .sum => some ("sum", .builtin "sum")
  | .all => some ("all", .builtin "all")
  | .any => some ("any", .builtin "any")
  | .list => some ("list", .type "list")
  | .tuple => some ("tuple", .type "tuple")
  | .sorted => some ("sorted", .builtin "sorted")
  | .ord => some ("ord", .builtin "ord")
  | .minL => some ("min", .builtin "min")
  | .str => some ("str", .type "str")
  | .dictOf => some ("dict", .type "dict")
  | _ => none
theorem biV_boot {b : Bi} {n : PySem.Str} {v : Value} (h : biV b = some (n, v)) : bootBuiltins n = some v ∧ n ≠ "__name__" ∧ (n == ("__debug__" : PySem.Str)) = false := by
  cases b <;> cases h <;> exact ⟨by decide +kernel, by decide, by decide⟩
theorem bi_rule {X : Cx} (hc : X.calm = true) {b : Bi} {n : PySem.Str} {v : Value} (h : biV b = some (n, v)) : CallR X v (rBi X.K b) := by
  cases b with
  | len => cases h; exact call_len.or call_lenD
  | int => cases h; exact call_int1
  | abs => cases h; exact call_abs
  | min => cases h; exact call_min2 hc
  | max => cases h; exact (call_max2 hc).or (call_max3Nu hc)
  | minL => cases h; exact cr_min hc
  | str => cases h; exact call_str_int
  | sum => cases h; exact cr_sum hc
  | all => cases h; exact cr_all hc
  | any => cases h; exact cr_any hc
  | list => cases h; exact call_list_of.or (call_listD hc)
  | dictOf => cases h; exact call_dictD
  | tuple => cases h; exact call_tuple_of
  | sorted => cases h; exact cr_sortedI.or cr_sortedS
  | ord => cases h; exact call_ord
  | _ => cases h
theorem RelUs.one {us : List U} {vs : List V} {u : U} (r : RelUs D φ H us vs) (e : us = [u]) : ∃ v, vs = [v] ∧ RelU D φ H u v := by
  subst e
  cases r with
  | cons a r => cases r; exact ⟨_, rfl, a⟩
theorem RelUs.two {us : List U} {vs : List V} {u w : U} (r : RelUs D φ H us vs) (e : us = [u, w]) : ∃ v z, vs = [v, z] ∧ RelU D φ H u v ∧ RelU D φ H w z := by
  subst e
  cases r with
  | cons a r => cases r with
    | cons b r => cases r; exact ⟨_, _, rfl, a, b⟩
theorem RelUs.three {us : List U} {vs : List V} {u w z : U} (r : RelUs D φ H us vs) (e : us = [u, w, z]) : ∃ v y x, vs = [v, y, x] ∧ RelU D φ H u v ∧ RelU D φ H w y ∧ RelU D φ H z x := by
  subst e
  cases r with
  | cons a r => cases r with
    | cons b r => cases r with
      | cons c r => cases r; exact ⟨_, _, _, rfl, a, b, c⟩
theorem max3_int (i j k : Int) : nuMax3 (.int i) (.int j) (.int k) = some (.int (if (if i < j then j else i) < k then k else (if i < j then j else i))) := by
  have e : ∀ i j : Int, nuLt (.int i) (.int j) = some (decide (i < j)) := fun _ _ => rfl
  unfold nuMax3 nuMax2
  by_cases h : i < j
  · by_cases h2 : j < k <;> simp [e, h, h2]
  · by_cases h2 : i < k <;> simp [e, h, h2]
theorem len_ok (g : Sim D φ S H) (r : RelU D φ H u x) {n : Nat} (h : lenU S u = some n) : LenV D.K x H n ∨ ∃ a kvs, x = V.ref a ∧ H a = some (.dK kvs) ∧ n = kvs.length := by
  cases r with
  | str a =>
    dsimp only [lenU] at h
    split at h
    · rename_i q
      cases h
      exact .inl ⟨by rw [sizeLine_eq]; exact q, rfl⟩
    · cases h
  | tup s r => cases h; exact .inl (.inr ⟨_, s, r.len⟩)
  | ref f =>
    rename_i l a
    dsimp only [lenU] at h
    split at h
    · cases h
      obtain ⟨vs, h1, h2⟩ := g.rd f (.inl (by assumption))
      exact .inl (.inl ⟨vs, h1, h2.len⟩)
    · cases h
      obtain ⟨vs, h1, h2⟩ := g.rd f (.inr (by assumption))
      exact .inl (.inl ⟨vs, h1, h2.len⟩)
    · cases h
      rename_i kvs e
      obtain ⟨gs, h1, h2⟩ := g.cell l _ a e f
      exact .inr ⟨a, gs, rfl, h1, h2.len⟩
    · cases h
  | _ => cases h
theorem rel_key (k : Key) : RelU D φ H (keyO k) (kV (keyK k)) := by cases k <;> constructor
theorem RelK.keys {kvs : List (Key × U)} {gs : List (L2.Key × V)} (r : RelK D φ H kvs gs) : RelUs D φ H (kvs.map fun p => keyO p.1) (gs.map fun p => kV p.1) := by
  induction kvs generalizing gs with
  | nil => cases r; exact .nil
  | cons p kvs ih => cases r with | cons a r => exact .cons (rel_key _) (ih r)
theorem bi_ok {b : Bi} {us : List U} {vs : List V} (g : Sim D φ S H) (r : RelUs D φ H us vs) (h : SatR D (biU b us S) (RelU D) φ H Q Ex) (hb : ∀ t, b ≠ .isi t) : rBi D.K b vs H Q := by
  unfold biU at h
  split at h
  · -- len
    obtain ⟨v, rfl, a⟩ := r.one rfl
    obtain ⟨z, hz, h⟩ := h.ofO
    obtain ⟨n, hn, rfl⟩ := Option.map_eq_some_iff.mp hz
    have q := h.here g (.int _)
    rcases len_ok g a hn with hl | ⟨p, kvs, rfl, h1, rfl⟩
    · exact .inl ⟨_, _, rfl, hl, q⟩
    · exact .inr ⟨_, _, rfl, h1, q⟩
  · obtain ⟨v, rfl, a⟩ := r.one rfl
    cases a
    exact .inl ⟨_, rfl, h.here g (.int _)⟩
  · obtain ⟨v, rfl, a⟩ := r.one rfl
    cases a
    exact .inr ⟨_, rfl, h.here g (.int _)⟩
  · obtain ⟨v, rfl, a⟩ := r.one rfl
    cases a
    exact ⟨_, rfl, h.here g (.int _)⟩
  · obtain ⟨v, z, rfl, a, c⟩ := r.two rfl
    cases a; cases c
    exact ⟨_, _, rfl, h.here g (.int _)⟩
  · obtain ⟨v, z, rfl, a, c⟩ := r.two rfl
    cases a; cases c
    exact .inl ⟨_, _, rfl, h.here g (.int _)⟩
  · rename_i i j k
    obtain ⟨v, z, y, rfl, a, c, d⟩ := r.three rfl
    cases a; cases c; cases d
    exact .inr ⟨_, _, _, _, rfl, max3_int i j k, h.here g (.int _)⟩
  · obtain ⟨v, rfl, a⟩ := r.one rfl
    split at h
    · rename_i m e
      obtain ⟨ns, e, hm⟩ := Option.bind_eq_some_iff.mp e
      obtain ⟨is_, e1, e2⟩ := Option.bind_eq_some_iff.mp e
      obtain ⟨p, ws, rfl, h1, h2⟩ := g.itemsL a e1
      obtain ⟨e3, _⟩ := h2.ints e2
      subst e3
      have q := h.here g (.int _)
      refine ⟨p, ns, rfl, h1, ?_, fun m' hm1 hm2 => ?_⟩
      · cases ns with
        | nil => cases hm
        | cons n ns => exact Nat.succ_pos _
      · have := List.min?_eq_some_iff.mpr ⟨hm1, hm2⟩
        rw [hm] at this
        cases this
        exact q
    · exact h.elim
  · obtain ⟨v, rfl, a⟩ := r.one rfl
    split at h
    · rename_i ns e
      obtain ⟨is_, e1, e2⟩ := Option.bind_eq_some_iff.mp e
      obtain ⟨p, ws, rfl, h1, h2⟩ := g.itemsL a e1
      obtain ⟨e3, _⟩ := h2.ints e2
      subst e3
      exact ⟨p, ns, rfl, h1, h.here g (.int _)⟩
    · exact h.elim
  · obtain ⟨v, rfl, a⟩ := r.one rfl
    split at h
    · rename_i ns e
      obtain ⟨is_, e1, e2⟩ := Option.bind_eq_some_iff.mp e
      obtain ⟨p, ws, rfl, h1, h2⟩ := g.itemsL a e1
      have e3 := h2.bls e2
      subst e3
      exact ⟨p, ns, rfl, h1, h.here g (.bl _)⟩
    · exact h.elim
  · obtain ⟨v, rfl, a⟩ := r.one rfl
    split at h
    · rename_i ns e
      obtain ⟨is_, e1, e2⟩ := Option.bind_eq_some_iff.mp e
      obtain ⟨p, ws, rfl, h1, h2⟩ := g.itemsL a e1
      have e3 := h2.bls e2
      subst e3
      exact ⟨p, ns, rfl, h1, h.here g (.bl _)⟩
    · exact h.elim
  · obtain ⟨v, rfl, a⟩ := r.one rfl
    split at h
    · rename_i is_ e
      obtain ⟨p, ws, rfl, h1, h2⟩ := g.items a e
      exact .inl ⟨p, ws, rfl, h1, h.newC g h2⟩
    · split at h
      · rename_i kvs e
        obtain ⟨l, p, gs, rfl, rfl, e1, f, h3, rk⟩ := dct_at g a e
        exact .inr ⟨p, gs, rfl, .inl h3, h.newC g rk.keys⟩
      · exact h.elim
  · obtain ⟨v, rfl, a⟩ := r.one rfl
    split at h
    · rename_i kvs e
      obtain ⟨l, p, gs, rfl, rfl, e1, f, h3, rk⟩ := dct_at g a e
      exact ⟨p, gs, rfl, .inl h3, fun q hq => h (φ ++ [q]) _ (.ref q) (List.prefix_append _ _) (Tm.new hq) (g.new hq ⟨gs, upd_same, rk.mono (List.prefix_append _ _) (Tm.new hq)⟩ rfl) (.ref (by rw [← g.len]; simp))⟩
    · exact h.elim
  · obtain ⟨v, rfl, a⟩ := r.one rfl
    cases a with
    | tup s r2 => exact ⟨_, _, rfl, .inr ⟨s, h.here g (.tup s r2)⟩⟩
  · obtain ⟨v, rfl, a⟩ := r.one rfl
    split at h
    · rename_i is_ e
      obtain ⟨p, ws, rfl, h1, h2⟩ := g.itemsL a e
      exact ⟨p, ws, rfl, .inl ⟨h1, h.newT g h2⟩⟩
    · exact h.elim
  · obtain ⟨v, rfl, a⟩ := r.one rfl
    split at h
    · rename_i ns e
      obtain ⟨is_, e1, e2⟩ := Option.bind_eq_some_iff.mp e
      obtain ⟨p, ws, rfl, h1, h2⟩ := g.itemsL a e1
      obtain ⟨e3, _⟩ := h2.ints e2
      subst e3
      refine .inl ⟨p, ns, rfl, h1, fun ns' q perm up hq => ?_⟩
      have e4 : ns' = sortI ns := sorted_same (perm.trans (sortI_perm ns).symm) up (sortI_up ns)
      subst e4
      exact h.newC g (RelUs.ofInts _) q hq
    · split at h
      · rename_i xs e
        obtain ⟨is_, e1, e2⟩ := Option.bind_eq_some_iff.mp e
        obtain ⟨p, ws, rfl, h1, h2⟩ := g.itemsL a e1
        split at h
        · rename_i h64
          have e3 := h2.strs e2
          subst e3
          refine .inr ⟨p, xs, rfl, h1, h64, fun ys q perm up hq => ?_⟩
          have e4 : ys = sortS xs := sortedS_same (perm.trans (sortS_perm xs).symm) (sortedS_pw up) (sortS_up xs)
          subst e4
          exact h.newC g (RelUs.ofStrs _) q hq
        · exact h.elim
      · exact h.elim
  · exact absurd rfl (hb _)
  · obtain ⟨v, rfl, a⟩ := r.one rfl
    cases a
    split at h
    · rename_i x c e
      have e2 := str_of1 e
      subst e2
      exact ⟨_, rfl, rfl, h.here g (.int _)⟩
    · exact h.elim
  · obtain ⟨v, rfl, a⟩ := r.one rfl
    cases a
    split at h
    · exact ⟨_, rfl, by assumption, h.here g (.str _)⟩
    · exact h.elim
  · obtain ⟨v, rfl, a⟩ := r.one rfl
    split at h
    · rename_i is_ e
      obtain ⟨p, ws, rfl, h1, h2⟩ := g.itemsL a e
      exact ⟨p, ws, rfl, h1, h.newC g h2.rev⟩
    · exact h.elim
  · exact h.elim

/-! ### isinstance -/
def tyN : Ty → Option String
  | .int => some "int"
  | .bool => some "bool"
  | .str => some "str"
  | .list => some "list"
  | .tuple => some "tuple"
  | .cls _ => none
theorem isi_ok (g : Sim D φ S H) (r : RelU D φ H u x) {t : Ty} {b : Bool} (h : isiU S u t = some b) : ∃ n m, tyN t = some n ∧ TyX D.K H x (.type m) ∧ kitB m n = some b := by
  have tupTy : ∀ {a : Addr} {vs : List V}, SqT D.K H a vs → TyX D.K H (.ref a) (.type "tuple") := fun {a vs} s => by
    rcases s with (s | ⟨o, s⟩) | ⟨o, its, n, s, c, _⟩
    · exact .base (.tup s)
    · exact .fTuple s
    · exact .kTuple s c
  cases r with
  | non => cases t <;> cases h <;> exact ⟨_, _, rfl, .base .non, by decide +kernel⟩
  | bl i => cases t <;> cases h <;> exact ⟨_, _, rfl, .base (.bl i), by decide +kernel⟩
  | int i => cases t <;> cases h <;> exact ⟨_, _, rfl, .base (.int i), by decide +kernel⟩
  | str i => cases t <;> cases h <;> exact ⟨_, _, rfl, .base (.str i), by decide +kernel⟩
  | tup s r => cases t <;> cases h <;> exact ⟨_, _, rfl, tupTy s, by decide +kernel⟩
  | ref f =>
    rename_i l a
    unfold isiU at h
    dsimp only at h
    split at h <;> first | (cases h; done) | skip
    all_goals
      rename_i e
      obtain ⟨vs, h1, _⟩ := g.cell l _ a e f
      cases h
      exact ⟨_, _, rfl, .base (.lst h1), by decide +kernel⟩
  | fn f => cases t <;> cases h

/-! ### methods -/
abbrev RM := V → List V → Hp → VK → Prop
abbrev rInsertA : RM := fun x vs H Q => ∃ (l : Addr) (xs : List V) (i : Int) (y : V), x = .ref l ∧ vs = [.int i, y] ∧ H l = some (.lst xs) ∧ xs.length < sizeLine ∧ 0 ≤ i ∧ i < 2 ^ 63 ∧ Q .non (upd H l (.lst (xs.take i.toNat ++ [y] ++ xs.drop i.toNat)))
abbrev rJoinA (K : PySem.W.Frag) : RM := fun x xs H Q => ∃ a p, ∃ ys : List PySem.Str, x = .str a ∧ xs = [.ref p] ∧ (SqL K H p (ys.map V.str) ∨ SqT K H p (ys.map V.str)) ∧ (ys.map (·.length)).sum + ys.length * a.length ≤ 16777216 ∧ Q (.str (Txt.join a ys)) H
abbrev rGet1 : RM := fun x vs H Q => ∃ (a : Addr) (y : V) (o : Option V), x = .ref a ∧ vs = [y] ∧ DGet H a y o ∧ Q (o.getD .non) H
abbrev rGet2 : RM := fun x vs H Q => ∃ (a : Addr) (y z : V) (o : Option V), x = .ref a ∧ vs = [y, z] ∧ DGet H a y o ∧ Q (o.getD z) H
abbrev rDPop1 : RM := fun x vs H Q => ∃ (a : Addr) (k : L2.Key) (v : V) (kvs : List (L2.Key × V)), x = .ref a ∧ vs = [kV k] ∧ H a = some (.dK kvs) ∧ valV kvs k = some v ∧ Q v (upd H a (.dK (L2.dropK kvs k)))
abbrev rDPop2 : RM := fun x vs H Q => ∃ (a : Addr) (k : L2.Key) (z : V) (kvs : List (L2.Key × V)), x = .ref a ∧ vs = [kV k, z] ∧ H a = some (.dK kvs) ∧ (∀ v, valV kvs k = some v → Q v (upd H a (.dK (L2.dropK kvs k)))) ∧ (valV kvs k = none → Q z H)
theorem mt_dget1 {X : Cx} (hu : X.A.units + 1 < cLine) : MtR X "dict.get" rGet1 := by
  intro pins s σ H x xs v us Q I rx rv h
  obtain ⟨a, y, o, rfl, rfl, g, q⟩ := h
  cases (show v = Value.ref a from rx)
  obtain ⟨u, rfl, ru⟩ := rv.one
  exact d_get1 hu I g ru fun w' s3 I3 rw' => ⟨_, H, I3, rw', q⟩
theorem mt_dget2 {X : Cx} (hu : X.A.units + 1 < cLine) : MtR X "dict.get" rGet2 := by
  intro pins s σ H x xs v us Q I rx rv h
  obtain ⟨a, y, z, o, rfl, rfl, g, q⟩ := h
  cases (show v = Value.ref a from rx)
  cases rv with
  | cons ru rv =>
    obtain ⟨w, rfl, rw_⟩ := Vals.one rv
    exact d_get2 hu I g ru rw_ fun w' s3 I3 rw' => ⟨_, H, I3, rw', q⟩
theorem mt_dpop1 {X : Cx} : MtR X "dict.pop" rDPop1 := by
  intro pins s σ H x xs v us Q I rx rv h
  obtain ⟨a, k, z, kvs, rfl, rfl, e, l, q⟩ := h
  cases (show v = Value.ref a from rx)
  obtain ⟨u, rfl, ru⟩ := rv.one
  exact d_pop I e ru l (.inl rfl) fun w' s3 I3 rw' => ⟨z, _, I3, rw', q⟩
theorem mt_dpop2 {X : Cx} : MtR X "dict.pop" rDPop2 := by
  intro pins s σ H x xs v us Q I rx rv h
  obtain ⟨a, k, z, kvs, rfl, rfl, e, q3, q4⟩ := h
  cases (show v = Value.ref a from rx)
  cases rv with
  | cons ru rv =>
    obtain ⟨w, rfl, rw_⟩ := Vals.one rv
    cases l : valV kvs k with
    | some v => exact d_pop I e ru l (.inr ⟨w, rfl⟩) fun w' s4 I4 rw' => ⟨v, _, I4, rw', q3 v l⟩
    | none => exact d_popD I e ru l fun s4 I4 => ⟨z, H, I4, rw_, q4 l⟩
def rBm (K : PySem.W.Frag) : Bm → RM
  | .append => rAppend
  | .extend => rExtend
  | .pop => rPop
  | .popAt => rPopAt
  | .insert => rInsertA
  | .index => rIndex K
  | .join => rJoinA K
  | .get => rGet1
  | .get2 => rGet2
  | .dpop => rDPop1
  | .dpop2 => rDPop2
  | _ => fun _ _ _ _ => False
theorem app_okU {us : List U} {vs : List V} (g : Sim D φ S H) (r : RelU D φ H u x) (rs : RelUs D φ H us vs) {b : Bm} (h : SatR D (bmU b u us S) (RelU D) φ H Q Ex) : rBm D.K b x vs H Q := by
  unfold bmU at h
  split at h
  · cases r with
    | ref f =>
      rename_i a
      obtain ⟨v, rfl, a1⟩ := rs.one rfl
      split at h
      · rename_i ys e
        split at h
        · rename_i q
          obtain ⟨zs, h1, r1⟩ := g.cell _ _ a e f
          have h2 : rAppend (.ref a) [v] H Q := by
            refine ⟨a, zs, v, rfl, rfl, h1, by rw [sizeLine_eq, ← r1.len]; exact q, ?_⟩
            refine h φ _ .non (List.prefix_refl _) (Tm.set h1 rfl) (g.set e f rfl rfl fun tm => ⟨_, upd_same, (r1.mono (List.prefix_refl _) tm).app (.cons (a1.mono (List.prefix_refl _) tm) .nil)⟩) .non
          exact h2
        · exact h.elim
      · exact h.elim
  · cases r with
    | ref f =>
      rename_i a
      obtain ⟨v, rfl, a1⟩ := rs.one rfl
      cases a1 with
      | ref f2 =>
        rename_i b
        split at h
        · rename_i ys zs e e2
          split at h
          · rename_i q
            obtain ⟨vs1, h1, r1⟩ := g.cell _ _ a e f
            obtain ⟨vs2, h2, r2⟩ := g.cell _ _ b e2 f2
            refine ⟨a, b, vs1, vs2, rfl, rfl, h1, h2, by rw [sizeLine_eq, ← r1.len, ← r2.len]; exact q, ?_⟩
            exact h φ _ .non (List.prefix_refl _) (Tm.set h1 rfl) (g.set e f rfl rfl fun tm => ⟨_, upd_same, (r1.mono (List.prefix_refl _) tm).app (r2.mono (List.prefix_refl _) tm)⟩) .non
          · exact h.elim
        · exact h.elim
  · cases r with
    | ref f =>
      rename_i a
      cases rs
      split at h
      · rename_i ys e
        split at h
        · rename_i z e2
          obtain ⟨vs1, h1, r1⟩ := g.cell _ _ a e f
          rw [List.getLast?_eq_getElem?] at e2
          obtain ⟨v, h2, h3⟩ := r1.at e2
          rw [r1.len] at h2
          refine ⟨a, vs1, v, rfl, rfl, h1, h2, ?_⟩
          exact h φ _ v (List.prefix_refl _) (Tm.set h1 rfl) (g.set e f rfl rfl fun tm => ⟨_, upd_same, (r1.mono (List.prefix_refl _) tm).dropLast⟩) (h3.mono (List.prefix_refl _) (Tm.set h1 rfl))
        · exact h.elim
      · exact h.elim
  · cases r with
    | ref f =>
      rename_i i a
      obtain ⟨v, rfl, a1⟩ := rs.one rfl
      cases a1
      split at h
      · rename_i ys e
        split at h
        · rename_i hi
          split at h
          · rename_i z e2
            obtain ⟨vs1, h1, r1⟩ := g.cell _ _ a e f
            obtain ⟨v, h2, h3⟩ := r1.at e2
            have hlt := (List.getElem?_eq_some_iff.mp h2).1
            refine ⟨a, vs1, i, i.toNat, v, rfl, rfl, h1, by omega, by omega, ?_, h2, ?_⟩
            · unfold seqIndex?
              simp only [show ¬ i < 0 by omega, if_false]
              rw [if_pos (by simp; omega)]
            · exact h φ _ v (List.prefix_refl _) (Tm.set h1 rfl) (g.set e f rfl rfl fun tm => ⟨_, upd_same, (r1.mono (List.prefix_refl _) tm).erase _⟩) (h3.mono (List.prefix_refl _) (Tm.set h1 rfl))
          · exact h.elim
        · exact h.elim
      · exact h.elim
  · cases r with
    | ref f =>
      rename_i i u a
      obtain ⟨v, z, rfl, a1, a2⟩ := rs.two rfl
      cases a1
      split at h
      · rename_i ys e
        split at h
        · rename_i hi
          obtain ⟨vs1, h1, r1⟩ := g.cell _ _ a e f
          refine ⟨a, vs1, i, z, rfl, rfl, h1, by rw [sizeLine_eq, ← r1.len]; exact hi.1, hi.2.1, by omega, ?_⟩
          refine h φ _ .non (List.prefix_refl _) (Tm.set h1 rfl) (g.set e f rfl rfl fun tm => ⟨_, upd_same, ?_⟩) .non
          have r2 := r1.mono (List.prefix_refl _) tm
          exact ((r2.take _).app (.cons (a2.mono (List.prefix_refl _) tm) .nil)).app (r2.drop _)
        · exact h.elim
      · exact h.elim
  · cases r with
    | ref f =>
      rename_i u l a
      obtain ⟨v, rfl, a1⟩ := rs.one rfl
      split at h
      · rename_i ys e
        split at h
        · rename_i hi
          split at h
          · rename_i jx e2
            obtain ⟨vs1, h1, r1⟩ := g.cell _ _ a e f
            obtain ⟨hlt, hz, hm⟩ := List.findIdx?_eq_some_iff_getElem.mp e2
            have hall : ∀ (m : Nat) (z' : V), vs1[m]? = some z' → ∃ w, ys[m]? = some w ∧ flU w = true ∧ eqF w _ = eqV z' v := fun m z' hz' => by
              obtain ⟨w, hw, rw_⟩ := r1.at' hz'
              have fw := List.all_eq_true.mp hi.2 w (List.mem_of_getElem? hw)
              exact ⟨w, hw, fw, eqF_ok rw_ a1 fw hi.1⟩
            obtain ⟨z, h2, h3⟩ := r1.at (List.getElem?_eq_getElem hlt)
            refine ⟨a, vs1, v, jx, z, rfl, rfl, .of h1, flV a1 hi.1, flVs r1 hi.2, h2, ?_, fun m z' hmj hz' => ?_, h.here g (.int _)⟩
            · rw [← eqF_ok h3 a1 (List.all_eq_true.mp hi.2 _ (List.getElem_mem hlt)) hi.1]
              exact hz
            · obtain ⟨w, hw, fw, e4⟩ := hall m z' hz'
              have hm1 : m < ys.length := by omega
              rw [List.getElem?_eq_getElem hm1] at hw
              cases hw
              rw [← e4]
              simpa using hm m hmj
          · exact h.elim
        · exact h.elim
      · exact h.elim
  · cases r with
    | str x =>
      obtain ⟨v, rfl, a1⟩ := rs.one rfl
      split at h
      · rename_i ys e
        split at h
        · rename_i hz
          obtain ⟨is_, e1, e2⟩ := Option.bind_eq_some_iff.mp e
          obtain ⟨p, ws, rfl, h1, h2⟩ := g.itemsL a1 e1
          have e3 := h2.strs e2
          subst e3
          exact ⟨_, p, ys, rfl, rfl, .inl h1, hz, h.here g (.str _)⟩
        · exact h.elim
      · exact h.elim
  · cases r with
    | ref f =>
      rename_i y l a
      obtain ⟨v, rfl, a1⟩ := rs.one rfl
      split at h
      · rename_i kvs k e hk
        obtain ⟨gs, h1, rk⟩ := g.cell _ _ a e f
        have ey := key_val hk a1
        subst ey
        rcases rk.get k with ⟨e1, e2⟩ | ⟨p, q, e1, e2, rp⟩
        · rw [e1] at h
          exact ⟨a, _, none, rfl, rfl, by rw [← e2]; exact DGet.k h1, h.here g .non⟩
        · rw [e1] at h
          exact ⟨a, _, some q, rfl, rfl, by rw [← e2]; exact DGet.k h1, h.here g rp⟩
      · exact h.elim
  · cases r with
    | ref f =>
      rename_i y z l a
      obtain ⟨v, z', rfl, a1, a2⟩ := rs.two rfl
      split at h
      · rename_i kvs k e hk
        obtain ⟨gs, h1, rk⟩ := g.cell _ _ a e f
        have ey := key_val hk a1
        subst ey
        rcases rk.get k with ⟨e1, e2⟩ | ⟨p, q, e1, e2, rp⟩
        · rw [e1] at h
          exact ⟨a, _, z', none, rfl, rfl, by rw [← e2]; exact DGet.k h1, h.here g a2⟩
        · rw [e1] at h
          exact ⟨a, _, z', some q, rfl, rfl, by rw [← e2]; exact DGet.k h1, h.here g rp⟩
      · exact h.elim
  · cases r with
    | ref f =>
      rename_i y l a
      obtain ⟨v, rfl, a1⟩ := rs.one rfl
      split at h
      · rename_i kvs k e hk
        obtain ⟨gs, h1, rk⟩ := g.cell _ _ a e f
        have ey := key_val hk a1
        subst ey
        rcases rk.get k with ⟨e1, e2⟩ | ⟨p, q, e1, e2, rp⟩
        · rw [e1] at h
          exact h.elim
        · rw [e1] at h
          refine ⟨a, keyK k, q, gs, rfl, rfl, h1, e2, ?_⟩
          exact h φ _ q (List.prefix_refl _) (Tm.set h1 rfl) (g.set e f rfl rfl fun tm => ⟨_, upd_same, (rk.drop k).mono (List.prefix_refl _) tm⟩) (rp.mono (List.prefix_refl _) (Tm.set h1 rfl))
      · exact h.elim
  · cases r with
    | ref f =>
      rename_i y z l a
      obtain ⟨v, z', rfl, a1, a2⟩ := rs.two rfl
      split at h
      · rename_i kvs k e hk
        obtain ⟨gs, h1, rk⟩ := g.cell _ _ a e f
        have ey := key_val hk a1
        subst ey
        refine ⟨a, keyK k, z', gs, rfl, rfl, h1, fun q e2 => ?_, fun e2 => ?_⟩
        · rcases rk.get k with ⟨e1, e3⟩ | ⟨p, q', e1, e3, rp⟩
          · rw [e3] at e2; cases e2
          · rw [e3] at e2
            have e2 := Option.some.inj e2
            subst e2
            rw [e1] at h
            exact h φ _ q' (List.prefix_refl _) (Tm.set h1 rfl) (g.set e f rfl rfl fun tm => ⟨_, upd_same, (rk.drop k).mono (List.prefix_refl _) tm⟩) (rp.mono (List.prefix_refl _) (Tm.set h1 rfl))
        · rcases rk.get k with ⟨e1, e3⟩ | ⟨p, q', e1, e3, rp⟩
          · rw [e1] at h
            exact h.here g a2
          · rw [e3] at e2; cases e2
      · exact h.elim
  · exact h.elim
end
end PyI
set_option Elab.async false
set_option linter.all false
set_option autoImplicit false
set_option maxRecDepth 100000
set_option maxHeartbeats 2000000
/-! The readings of the small machine, and one rule for each construct. -/
namespace PyI
open PySem L2

/-- the names of a def, its scope -/
structure Cfg where
  N : List PySem.Str
  sc : Scope
  st : PySem.Str → Bool
  calm : Bool
  top : Bool
/-- the names of the program -/
structure Gc where
  fnm : List (Option PySem.Str)
  gnm : List PySem.Str
  cnm : List PySem.Str
  free : List PySem.Str
  exs : List (Nat × List Nat) := []
  nm : List PySem.Str := []
  props : List ((Nat × Nat) × Nat) := []
  mnm : List Nat := []
  ini : List Nat := []
/-- an exception -/
def R.exB {α : Type} : R α → Bool
  | .exc _ _ _ => true
  | _ => false
/-- the names of properties -/
def Gc.pnm (G : Gc) : List Nat := G.props.map fun q => q.1.2
def spI (D : Wd) (cf : Nat → List U → Store → R U) (f : Nat) : Sp := fun vs H Q E => ∃ φ S us, Sim D φ S H ∧ RelUs D φ H us vs ∧ SatR D (cf f us S) (RelU D) φ H Q E
structure CxOk (D : Wd) (G : Gc) (P : Pg) (cf : Nat → List U → Store → R U) (j : Nat) (C : Cfg) (W : WX) (X : Cx) : Prop where
  K : X.K = D.K
  N : X.N = C.N
  nd : C.N.Nodup
  sc : X.env.scope = C.sc
  calm : C.calm = true → X.calm = true
  room : C.calm = true → Room (j + 1) X.A
  tk : Takes X W
  po : PassesOwn (model X.prog X.w) X.A X.env X.xe
  fnS : ∀ x, C.st x = true → X.fn x = true
  fr : ∀ x ∈ G.free, X.mg x = none
  gl : ∀ (g : Nat) (x : PySem.Str) (u : U), G.gnm[g]? = some x → P.glo[g]? = some u → ∃ val, X.mg x = some val ∧ ∀ φ H, ∃ v, RelU D φ H u v ∧ RelV v val
  top : C.top = true → X.stack = X.env :: X.outer ∧ X.env.frame = some X.env.locals
  exs : P.excs = G.exs
  noi : ∀ c as, G.exs.lookup c = some as → P.inits.lookup c = none
  exc : ∀ (c : Nat) (x : PySem.Str) (as : List Nat), G.cnm[c]? = some x → G.exs.lookup c = some as → X.mg x = some (.ref (D.cA c)) ∧ PySem.W.excIn X.K (D.cA c) [.type "ValueError", .type "Exception", .type "BaseException", .type "object"] "ValueError.__new__" = true ∧ PySem.W.keepIn X.K (.ref (D.cA c)) = true ∧ Raises X (.ref (D.cA c))
  exm : ∀ (c c' : Nat) (as as' : List Nat), G.exs.lookup c = some as → G.exs.lookup c' = some as' → PySem.W.exmOne X.K (.ref (D.cA c)) (.ref (D.cA c')) = some (decide (c' ∈ as))
  dnm : D.nm = G.nm
  mne : ∀ m ∈ G.mnm, ∃ c f, P.meths.lookup (c, m) = some f
  ine : ∀ c ∈ G.ini, ∃ f, P.inits.lookup c = some f
  nmd : D.nm.Nodup
  cls : ∀ c ∈ D.cl, Cls X.K (D.cA c)
  flf : ∀ (c f : Nat) (x : PySem.Str), (c, f) ∈ P.flds → D.nm[f]? = some x → NoAttr X.K (D.cA c) x
  mth : ∀ (c m f : Nat) (x : PySem.Str), P.meths.lookup (c, m) = some f → D.nm[m]? = some x → G.props.lookup (c, m) = none → c ∈ D.cl ∧ Meth X.K (D.cA c) x (D.fA f) ∧ ∃ fd ps, FnOk X.prog X.w X.K X.mg X.base (L2.CX X.prog X.w) j (D.fA f) fd ps (spI D cf f) ∧ Binds X.K fd ps []
  prp : ∀ (c m f : Nat) (x : PySem.Str), P.meths.lookup (c, m) = some f → D.nm[m]? = some x → m ∈ G.pnm → c ∈ D.cl ∧ (∃ p, PropOf X.K (D.cA c) x p (D.fA f)) ∧ (∀ us S, (cf f us S).exB = false) ∧ ∃ fd ps, FnOk X.prog X.w X.K X.mg X.base (L2.CX X.prog X.w) j (D.fA f) fd ps (spI D cf f) ∧ Binds X.K fd ps []
  ini : ∀ (c f : Nat) (x : PySem.Str), P.inits.lookup c = some f → G.cnm[c]? = some x → c ∈ D.cl ∧ Mk X.K (D.cA c) (D.fA f) ∧ X.mg x = some (.ref (D.cA c)) ∧ ∃ fd ps, FnOk X.prog X.w X.K X.mg X.base (L2.CX X.prog X.w) j (D.fA f) fd ps (spI D cf f) ∧ Binds X.K fd ps []
  fns : ∀ (f : Nat) (x : PySem.Str), G.fnm[f]? = some (some x) → ∃ fd ps, FnOk X.prog X.w X.K X.mg X.base (L2.CX X.prog X.w) j (D.fA f) fd ps (spI D cf f) ∧ X.mg x = some (.ref (D.fA f)) ∧ PySem.W.keepIn X.K (.ref (D.fA f)) = true ∧ Binds X.K fd ps []

section
variable (D : Wd) (P : Pg) (cf : Nat → List U → Store → R U) (W : WX)
def tI (e : E) : TE := fun σ H Q => ∃ φ env S, Sim D φ S H ∧ RelE D φ H env σ ∧ SatR D (ev P cf e env S) (RelU D) φ H Q (fun c d H1 => W c d σ H1)
def tIs (es : Es) : TA := fun σ H Q => ∃ φ env S, Sim D φ S H ∧ RelE D φ H env σ ∧ SatR D (evs P cf es env S) (RelUs D) φ H Q (fun c d H1 => W c d σ H1)
def tIt (e : E) : TT := fun σ H Q => ∃ φ env S, Sim D φ S H ∧ RelE D φ H env σ ∧ SatR D (evt P cf e env S) (fun _ _ (a b : Bool) => a = b) φ H Q (fun c d H1 => W c d σ H1)
def tIc (e : Eo) : TT := fun σ H Q => ∃ φ env S, Sim D φ S H ∧ RelE D φ H env σ ∧ SatR D (evc P cf e env S) (fun _ _ (a b : Bool) => a = b) φ H Q (fun c d H1 => W c d σ H1)
def tIo (e : Eo) : TO := fun σ H Q => ∃ φ env S, Sim D φ S H ∧ RelE D φ H env σ ∧ SatR D (evo P cf e env S) (fun _ _ (a b : Option Int) => a = b) φ H Q (fun c d H1 => W c d σ H1)
end
/-- what an iterator hands out -/
def RelQ (D : Wd) (φ : List Addr) (H : Hp) (q : Sq) (J : L2.It) : Prop := ∀ (φ1 : List Addr) (S1 : Store) (H1 : Hp), φ <+: φ1 → Tm D H H1 → Sim D φ1 S1 H1 → okW q.watch S1 = true →
  (∀ i, q.items.length ≤ i → J.stop i H1) ∧ ∀ (i : Nat) (u : U), q.items[i]? = some u → J.go i H1 ∧ ∀ x H2, J.yld i H1 x H2 → Tm D H1 H2 ∧ Sim D φ1 S1 H2 ∧ RelU D φ1 H2 u x
def tIq (D : Wd) (P : Pg) (cf : Nat → List U → Store → R U) (W : WX) (it : It) : TI := fun σ H Q => ∃ φ env S, Sim D φ S H ∧ RelE D φ H env σ ∧ SatR D (evi P cf it env S) (RelQ D) φ H Q (fun c d H1 => W c d σ H1)

theorem PE.imp {X : Cx} {e : Expr} {t t' : TE} (h : PE X e t) (k : ∀ σ H Q, t' σ H Q → t σ H Q) : PE X e t' := ⟨fun pins s σ H Q I q => h.run pins s σ H Q I (k _ _ _ q)⟩
theorem PT.imp {X : Cx} {e : Expr} {t t' : TT} (h : PT X e t) (k : ∀ σ H Q, t' σ H Q → t σ H Q) : PT X e t' := ⟨fun pins s σ H Q I q => h.run pins s σ H Q I (k _ _ _ q)⟩
theorem PW.imp {X : Cx} {e : Expr} {t t' : TT} (h : PW X e t) (k : ∀ σ H Q, t' σ H Q → t σ H Q) : PW X e t' := ⟨fun wh pins s σ H Q I q => h.run wh pins s σ H Q I (k _ _ _ q)⟩
theorem PA.imp {X : Cx} {e : List Expr} {t t' : TA} (h : PA X e t) (k : ∀ σ H Q, t' σ H Q → t σ H Q) : PA X e t' := ⟨fun p pins s σ H Q I q => h.run p pins s σ H Q I (k _ _ _ q)⟩
theorem PO.imp {X : Cx} {e : Option Expr} {t t' : TO} (h : PO X e t) (k : ∀ σ H Q, t' σ H Q → t σ H Q) : PO X e t' := by
  constructor
  intros
  apply h.run
  · assumption
  · exact k _ _ _ (by assumption)
theorem PI.imp {X : Cx} {tg e : Expr} {t t' : TI} (h : PI X tg e t) (k : ∀ σ H Q, t' σ H Q → t σ H Q) : PI X tg e t' := ⟨fun pins s σ H Q I q => h.run pins s σ H Q I (k _ _ _ q)⟩
theorem PI.or {X : Cx} {tg e : Expr} {t t' : TI} (h : PI X tg e t) (h' : PI X tg e t') : PI X tg e (fun σ H R => t σ H R ∨ t' σ H R) := ⟨fun pins s σ H Q I q => q.elim (h.run pins s σ H Q I) (h'.run pins s σ H Q I)⟩
theorem PTs.imp {X : Cx} {e : List Expr} {t t' : TT} (h : PTs X e t) (k : ∀ σ H Q, t' σ H Q → t σ H Q) : PTs X e t' := ⟨fun pins s σ H Q I q => h.run pins s σ H Q I (k _ _ _ q)⟩

def starB : Expr → Bool
  | .Starred _ _ => true
  | _ => false
theorem star_cons {e : Expr} {es : List Expr} {env : PySem.Env} (h : starB e = false) : starEach (e :: es) env = (false, eval e env) :: starEach es env := by
  cases e <;> first | rfl | cases h
theorem star_any {pos : Pos} {env : PySem.Env} : ∀ {es : List Expr}, es.all (fun e => !starB e) = true → (backTo pos (starEach es env)).any (·.1) = false
  | [], _ => rfl
  | e :: es, h => by
    rw [List.all_cons, Bool.and_eq_true] at h
    have ih := star_any (pos := pos) (env := env) h.2
    rw [star_cons (by simpa using h.1)]
    unfold backTo at ih ⊢
    simp at ih ⊢
    exact ih

section
variable {D : Wd} {G : Gc} {P : Pg} {cf : Nat → List U → Store → R U} {j : Nat} {C : Cfg} {W : WX} {X : Cx}
/-! ### names, constants -/
def visB (sc : Scope) (x : PySem.Str) : Bool := match sc.names.lookup x with
  | some .local => true
  | some .cell => true
  | some .free => true
  | _ => false
theorem vis_of {sc : Scope} {x : PySem.Str} (h : visB sc x = true) : Vis sc x := by
  unfold visB at h
  split at h
  · exact .inl (by assumption)
  · exact .inr (.inl (by assumption))
  · exact .inr (.inr (by assumption))
  · cases h
def varB (C : Cfg) (i : Nat) (x : PySem.Str) : Bool := decide (C.N[i]? = some x) && visB C.sc x && !(x == ("__debug__" : PySem.Str)) && !(x == ("__classdict__" : PySem.Str))
theorem ie_var (ok : CxOk D G P cf j C W X) {i : Nat} {x : PySem.Str} {pos : Pos} (h : varB C i x = true) : PE X (.Name x pos) (tI D P cf W (.var i)) := by
  unfold varB at h
  simp only [Bool.and_eq_true, decide_eq_true_eq, Bool.not_eq_true'] at h
  obtain ⟨⟨⟨h1, h2⟩, h3⟩, h4⟩ := h
  refine PE.imp (pe_var (i := i) (by rw [ok.N]; exact h1) (by rw [ok.sc]; exact vis_of h2) h3 h4) fun σ H Q ⟨φ, env, S, g, e, q⟩ => ?_
  unfold ev at q
  split at q
  · rename_i u hu
    obtain ⟨v, h5, h6⟩ := e.at_ i u hu
    exact ⟨v, h5, q.here g h6⟩
  · exact q.elim
theorem ie_int {i : Int} {k : Nat} {pos : Pos} : PE X (.Constant (.int i) k pos) (tI D P cf W (.int i)) := PE.imp pe_int fun σ H Q ⟨φ, env, S, g, e, q⟩ => SatR.here (u := U.int i) (by unfold ev at q; exact q) g (RelU.int i)
theorem ie_str {i : PySem.Str} {k : Nat} {pos : Pos} : PE X (.Constant (.str i) k pos) (tI D P cf W (.str i)) := PE.imp pe_str fun σ H Q ⟨φ, env, S, g, e, q⟩ => SatR.here (u := U.str i) (by unfold ev at q; exact q) g (RelU.str i)
theorem ie_bl {i : Bool} {k : Nat} {pos : Pos} : PE X (.Constant (.bool i) k pos) (tI D P cf W (.bl i)) := PE.imp pe_bl fun σ H Q ⟨φ, env, S, g, e, q⟩ => SatR.here (u := U.bl i) (by unfold ev at q; exact q) g (RelU.bl i)
theorem ie_non {k : Nat} {pos : Pos} : PE X (.Constant .none k pos) (tI D P cf W .non) := PE.imp pe_non fun σ H Q ⟨φ, env, S, g, e, q⟩ => SatR.here (u := U.non) (by unfold ev at q; exact q) g RelU.non
def gloB (C : Cfg) (x : PySem.Str) : Bool := decide (C.sc.names.lookup x = some .globalImplicit) && !(x == ("__debug__" : PySem.Str))
theorem glo_of (ok : CxOk D G P cf j C W X) {x : PySem.Str} (h : gloB C x = true) : Gl X x ∧ (x == ("__debug__" : PySem.Str)) = false := by
  unfold gloB at h
  simp only [Bool.and_eq_true, decide_eq_true_eq, Bool.not_eq_true'] at h
  refine ⟨?_, h.2⟩
  show X.env.scope.names.lookup x = some .globalImplicit
  rw [ok.sc]
  exact h.1
theorem ie_glo (ok : CxOk D G P cf j C W X) {i : Nat} {x : PySem.Str} {pos : Pos} (h : G.gnm[i]? = some x) (h2 : gloB C x = true) : PE X (.Name x pos) (tI D P cf W (.glo i)) := by
  obtain ⟨hg, hd⟩ := glo_of ok h2
  cases hu : P.glo[i]? with
  | none => 
    refine ⟨fun pins s σ H Q I ⟨φ, env, S, g, e, q⟩ => ?_⟩
    unfold ev at q
    rw [hu] at q
    exact q.elim
  | some u =>
    obtain ⟨val, h3, h4⟩ := ok.gl i x u h hu
    refine ⟨fun pins s σ H Q I ⟨φ, env, S, g, e, q⟩ => ?_⟩
    obtain ⟨v, h5, h6⟩ := h4 φ H
    unfold ev at q
    rw [hu] at q
    exact (pe_glob hg h3 h6 hd).run pins s σ H Q I (SatR.here (u := u) q g h5)
theorem ie_fnv (ok : CxOk D G P cf j C W X) {i : Nat} {x : PySem.Str} {pos : Pos} (h : G.fnm[i]? = some (some x)) (h2 : gloB C x = true) : PE X (.Name x pos) (tI D P cf W (.fnv i)) := by
  obtain ⟨hg, hd⟩ := glo_of ok h2
  obtain ⟨fd, ps, _, h3, _⟩ := ok.fns i x h
  refine PE.imp (pe_glob (v := .ref (D.fA i)) hg h3 rfl hd) fun σ H Q ⟨φ, env, S, g, e, q⟩ => ?_
  unfold ev at q
  exact q.here g (.fn i)

/-! ### a text between quotes -/
/-- replacing, both texts written here: their tokens are out already -/
theorem pet_rep {o : Expr} {to : TE} {a b n : PySem.Str} {k0 k1 : Nat} {p0 p1 apos pos : Pos} (ho : PET X o to) (hn : n = ("replace" : PySem.Str)) (hbase : attributeBase o "replace" X.env (eval o X.env) = eval o X.env) (hline : (apos.endLine == pos.line) = true) (hab : a ≠ b) :
    PET X (.Call (.Attribute o n apos) [.Constant (.str a) k0 p0, .Constant (.str b) k1 p1] [] pos) (fun σ H Q => to σ H fun v H1 => ∃ x, v = .str x ∧ x.length + (x.length + 1) * b.length ≤ 16777216 ∧ Q (.str (PySem.Txt.replace x a b)) H1) := by
  subst hn
  intro pins s σ H Q h0 I h
  refine PySem.Call_method2 hbase rfl hline (wpAny_mono (PySem.wpAny_toks (ho pins s σ H _ h0 I h)) (fun v s1 q => ?_) fun _ _ z => z.2)
  obtain ⟨hk, y, H1, I1, r1, x, e, hb, q1⟩ := q
  subst e
  obtain ⟨tx, e⟩ := r1
  subst e
  have hs : 1 ≤ s1.toks := Nat.le_trans h0 hk
  refine ⟨"str", _, PySem.F.plainAttrs_str, PySem.F.slot_str_replace, PySem.F.type_str_replace, typeIs_str _ _ _, (fun _ e => nomatch e), Calls.callWith_builtin rfl (Calls.evalArgs_plain (Calls.spliced_cons (Calls.Constant_str (Calls.spliced_cons (Calls.Constant_str (Calls.spliced_nil ?_))))))⟩
  exact PySem.SC.replace (show s1.toks ≠ 0 by omega) (show s1.toks + 1 ≠ 0 by omega) (show s1.toks ≠ s1.toks + 1 by omega) (by simpa using hab) hb fun t' k => ⟨.str _, H1, I1.tok k, ⟨t', rfl⟩, q1⟩
theorem pet_of {o : Expr} {to : TE} (h : PE X o to) : PET X o to := fun pins s σ H Q _ I q => h.run pins s σ H Q I q
/-- a written text ahead: a token is out behind it -/
theorem pe_catT {q : PySem.Str} {k : Nat} {p pos : Pos} {o : Expr} {to : TE} (ho : PET X o to) : PE X (.BinOp (.Constant (.str q) k p) .Add o pos) (fun σ H Q => to σ H fun v H1 => ∃ x, v = .str x ∧ q.length + x.length ≤ 16777216 ∧ Q (.str (q ++ x)) H1) := by
  refine ⟨fun pins s σ H Q I h => ?_⟩
  refine wpAny_BinOp (Calls.Constant_str (thn (ho pins _ σ H _ (show 1 ≤ s.toks + 1 by omega) (I.tok _) h) fun v s1 ⟨y, H1, I1, r1, x, e, hb, q1⟩ => ?_))
  subst e
  obtain ⟨tx, e⟩ := r1
  subst e
  exact PyProof.Rows.add_str (fun t' tk => ⟨.str _, H1, I1.tok tk, ⟨t', rfl⟩, q1⟩) (by rw [sizeLine_eq]; exact hb)
def escB (C : Cfg) (i : Nat) (q a b c d : PySem.Str) : Expr → Bool
  | .BinOp (.Constant (.str q1) _ _) .Add (.Call (.Attribute (.Call (.Attribute (.Name n _) m1 ap1) [.Constant (.str a1) _ _, .Constant (.str b1) _ _] [] cp1) m2 ap2) [.Constant (.str c1) _ _, .Constant (.str d1) _ _] [] cp2) _ =>
    varB C i n && (decide (q = q1) && decide (a = a1) && decide (b = b1) && decide (c = c1) && decide (d = d1) && decide (m1 = "replace") && decide (m2 = "replace") && (ap1.endLine == cp1.line) && (ap2.endLine == cp2.line))
  | _ => false
theorem ie_esc (ok : CxOk D G P cf j C W X) {i : Nat} {q a b c d : PySem.Str} {x : Expr} (h : escB C i q a b c d x = true) : PE X x (tI D P cf W (.esc i q a b c d)) := by
  unfold escB at h
  split at h
  · simp only [Bool.and_eq_true, decide_eq_true_eq] at h
    obtain ⟨hv, ⟨⟨⟨⟨⟨⟨⟨e1, e2⟩, e3⟩, e4⟩, e5⟩, e6⟩, e7⟩, l1⟩, l2⟩ := h
    subst e1 e2 e3 e4 e5 e6 e7
    by_cases hc : a ≠ b ∧ c ≠ d
    · refine PE.imp (pe_catT (pet_rep (pet_rep (pet_of (ie_var (D := D) (P := P) (cf := cf) (W := W) ok hv)) rfl rfl l1 hc.1) rfl rfl l2 hc.2)) fun σ H Q ⟨φ, env, S, g, e, q0⟩ => ?_
      refine ⟨φ, env, S, g, e, ?_⟩
      unfold ev at q0 ⊢
      split at q0
      · rename_i x hu
        rw [hu]
        unfold escS at q0
        split at q0
        · rename_i hz
          intro φ1 H1 v p1 t1 g1 r1
          cases r1
          exact ⟨x, rfl, hz.2.2.1, _, rfl, hz.2.2.2.1, _, rfl, hz.2.2.2.2, q0 φ1 H1 _ p1 t1 g1 (.str _)⟩
        · exact q0.elim
      · exact q0.elim
    · refine ⟨fun pins s σ H Q I ⟨φ, env, S, g, e, q0⟩ => ?_⟩
      unfold ev at q0
      split at q0
      · unfold escS at q0
        rw [if_neg (fun hz => hc ⟨hz.1, hz.2.1⟩)] at q0
        exact q0.elim
      · exact q0.elim
  · cases h

/-! ### operators -/
theorem ie_op {op : Operator} {o : Bop} {a b : E} {x y : Expr} {pos : Pos} {r : R2} (ho : OpR X (binaryOp op) r) (hr : ∀ {φ : List Addr} {H : Hp} {S : Store} {u w : U} {x y : V} {Q : VK} {Ex : XK}, Sim D φ S H → RelU D φ H u x → RelU D φ H w y → SatR D (binU o u w S) (RelU D) φ H Q Ex → r x y H Q)
    (ha : PE X x (tI D P cf W a)) (hb : PE X y (tI D P cf W b)) : PE X (.BinOp x op y pos) (tI D P cf W (.bin o a b)) := by
  refine PE.imp (pe_op ho ha hb) fun σ H Q ⟨φ, env, S, g, e, q⟩ => ?_
  unfold ev at q
  refine ⟨φ, env, S, g, e, q.bind fun u S1 φ1 H1 v _ p1 t1 g1 r1 q1 => ?_⟩
  refine ⟨φ1, env, S1, g1, e.mono p1 t1, q1.bind fun w S2 φ2 H2 z _ p2 t2 g2 r2 q2 => ?_⟩
  exact hr g2 (r1.mono p2 t2) r2 q2
theorem ie_neg {a : E} {x : Expr} {pos : Pos} (ha : PE X x (tI D P cf W a)) : PE X (.UnaryOp .USub x pos) (tI D P cf W (.neg a)) := by
  refine PE.imp (pe_un un_neg ha) fun σ H Q ⟨φ, env, S, g, e, q⟩ => ?_
  unfold ev at q
  refine ⟨φ, env, S, g, e, q.bind fun u S1 φ1 H1 v _ p1 t1 g1 r1 q1 => ?_⟩
  cases r1 with
  | int i => exact ⟨i, rfl, q1.here g1 (.int _)⟩
  | _ => exact q1.elim
abbrev CmpS (D : Wd) (o : Cop) (r : R2) : Prop := ∀ {φ : List Addr} {H : Hp} {S : Store} {u w : U} {x y : V} {Q : VK} {Ex : XK}, Sim D φ S H → RelU D φ H u x → RelU D φ H w y → SatR D (ofO S ((cmpU S o u w).map .bl)) (RelU D) φ H Q Ex → r x y H Q
theorem ie_cmp {op : CmpOp} {o : Cop} {a b : E} {x y : Expr} {pos : Pos} {r : R2} (ho : OpR X (compareOp op) r) (hr : CmpS D o r)
    (ha : PE X x (tI D P cf W a)) (hb : PE X y (tI D P cf W b)) (hm : behindInMarks op y = false) : PE X (.Compare x [op] [y] pos) (tI D P cf W (.cmp o a b)) := by
  refine PE.imp (pe_cmpR ho ha hb hm) fun σ H Q ⟨φ, env, S, g, e, q⟩ => ?_
  unfold ev at q
  refine ⟨φ, env, S, g, e, q.bind fun u S1 φ1 H1 v _ p1 t1 g1 r1 q1 => ?_⟩
  refine ⟨φ1, env, S1, g1, e.mono p1 t1, q1.bind fun w S2 φ2 H2 z _ p2 t2 g2 r2 q2 => ?_⟩
  exact hr g2 (r1.mono p2 t2) r2 q2
theorem R.bind_assoc {α β γ : Type} (r : R α) (f : α → Store → R β) (h : β → Store → R γ) : (r.bind f).bind h = r.bind fun a S => (f a S).bind h := by
  cases r <;> rfl
/-- a test's answer by its value's rule -/
theorem tru_bl {φ : List Addr} {H : Hp} {S : Store} {o : Option Bool} {Q : Bool → Hp → Prop} {Ex : XK} (q : SatR D ((ofO S (o.map U.bl)).bind fun x S => tru S x) (fun _ _ (a b : Bool) => a = b) φ H Q Ex) : SatR D (ofO S (o.map .bl)) (RelU D) φ H (fun z H' => ∃ k, z = .bl k ∧ Q k H') Ex := by
  cases o with
  | none => exact q.elim
  | some k =>
    intro φ3 H3 v p3 t3 g3 r3
    cases r3
    exact ⟨k, rfl, q φ3 H3 k p3 t3 g3 rfl⟩
theorem it_cmp {op : CmpOp} {o : Cop} {a b : E} {x y : Expr} {pos : Pos} {r : R2} (ho : OpR X (compareOp op) r) (hr : CmpS D o r)
    (ha : PE X x (tI D P cf W a)) (hb : PE X y (tI D P cf W b)) (hm : behindInMarks op y = false) : PT X (.Compare x [op] [y] pos) (tIt D P cf W (.cmp o a b)) := by
  refine PT.imp (pt_cmpR ho ha hb hm) fun σ H Q ⟨φ, env, S, g, e, q⟩ => ?_
  unfold evt ev at q
  rw [R.bind_assoc] at q
  refine ⟨φ, env, S, g, e, q.bind fun u S1 φ1 H1 v _ p1 t1 g1 r1 q1 => ?_⟩
  rw [R.bind_assoc] at q1
  refine ⟨φ1, env, S1, g1, e.mono p1 t1, q1.bind fun w S2 φ2 H2 z _ p2 t2 g2 r2 q2 => ?_⟩
  exact hr g2 (r1.mono p2 t2) r2 (tru_bl q2)
/-- a truth value of the first comparison, then the second -/
theorem cmp_bl {φ : List Addr} {H : Hp} {S : Store} {o : Cop} {u w : U} {x y : V} {r : R2} (hr : CmpS D o r) (g : Sim D φ S H) (r1 : RelU D φ H u x) (r2 : RelU D φ H w y) {k : Bool} (hk : cmpU S o u w = some k) {Q : VK}
    (h : ∀ φ1 H1, φ <+: φ1 → Tm D H H1 → Sim D φ1 S H1 → Q (.bl k) H1) : r x y H Q := by
  refine hr (Ex := fun _ _ _ => True) g r1 r2 ?_
  rw [hk]
  intro φ1 H1 v p t g1 r3
  cases r3
  exact h φ1 H1 p t g1
theorem ie_cmp2 {op op' : CmpOp} {o p : Cop} {a b c : E} {x y z : Expr} {pos : Pos} {r r' : R2} (ho : OpR X (compareOp op) r) (hr : CmpS D o r) (ho' : OpR X (compareOp op') r') (hr' : CmpS D p r')
    (ha : PE X x (tI D P cf W a)) (hb : PE X y (tI D P cf W b)) (hc : PE X z (tI D P cf W c)) (hm : lastMarks [op, op'] [y, z] = false) : PE X (.Compare x [op, op'] [y, z] pos) (tI D P cf W (.cmp2 o p a b c)) := by
  refine PE.imp (pe_chain ho ho' ha hb hc hm) fun σ H Q ⟨φ, env, S, g, e, q⟩ => ?_
  unfold ev at q
  refine ⟨φ, env, S, g, e, q.bind fun u S1 φ1 H1 v _ p1 t1 g1 r1 q1 => ?_⟩
  refine ⟨φ1, env, S1, g1, e.mono p1 t1, q1.bind fun w S2 φ2 H2 v2 _ p2 t2 g2 r2 q2 => ?_⟩
  cases hk : cmpU S2 o u w with
  | none => rw [hk] at q2; exact q2.elim
  | some k =>
    rw [hk] at q2
    refine cmp_bl hr g2 (r1.mono p2 t2) r2 hk fun φ3 H3 p3 t3 g3 => ⟨k, rfl, ?_⟩
    cases k with
    | false => exact SatR.here (u := U.bl false) (q2.mono p3 t3) g3 (RelU.bl false)
    | true =>
      rw [if_pos rfl]
      have q3 := q2.mono p3 t3
      refine ⟨φ3, env, S2, g3, e.mono (p1.trans (p2.trans p3)) (t1.trans (t2.trans t3)), q3.bind fun w2 S4 φ4 H4 v4 _ p4 t4 g4 r4 q4 => ?_⟩
      exact hr' g4 (r2.mono (p3.trans p4) (t3.trans t4)) r4 q4
theorem it_cmp2 {op op' : CmpOp} {o p : Cop} {a b c : E} {x y z : Expr} {pos : Pos} {r r' : R2} (ho : OpR X (compareOp op) r) (hr : CmpS D o r) (ho' : OpR X (compareOp op') r') (hr' : CmpS D p r')
    (ha : PE X x (tI D P cf W a)) (hb : PE X y (tI D P cf W b)) (hc : PE X z (tI D P cf W c)) (hm : lastMarks [op, op'] [y, z] = false) : PT X (.Compare x [op, op'] [y, z] pos) (tIt D P cf W (.cmp2 o p a b c)) := by
  refine PT.imp (pt_chain ho ho' ha hb hc hm) fun σ H Q ⟨φ, env, S, g, e, q⟩ => ?_
  unfold evt ev at q
  rw [R.bind_assoc] at q
  refine ⟨φ, env, S, g, e, q.bind fun u S1 φ1 H1 v _ p1 t1 g1 r1 q1 => ?_⟩
  rw [R.bind_assoc] at q1
  refine ⟨φ1, env, S1, g1, e.mono p1 t1, q1.bind fun w S2 φ2 H2 v2 _ p2 t2 g2 r2 q2 => ?_⟩
  cases hk : cmpU S2 o u w with
  | none => rw [hk] at q2; exact q2.elim
  | some k =>
    rw [hk] at q2
    refine cmp_bl hr g2 (r1.mono p2 t2) r2 hk fun φ3 H3 p3 t3 g3 => ⟨k, rfl, ?_⟩
    cases k with
    | false =>
      refine ⟨false, rfl, ?_⟩
      exact SatR.here (D := D) (φ := φ3) (u := false) (S := S2) (rel := fun _ _ (a b : Bool) => a = b) (SatR.mono (r := R.val false S2) q2 p3 t3) g3 rfl
    | true =>
      rw [if_pos rfl]
      dsimp only at q2
      rw [R.bind_assoc] at q2
      have q3 := q2.mono p3 t3
      refine ⟨φ3, env, S2, g3, e.mono (p1.trans (p2.trans p3)) (t1.trans (t2.trans t3)), q3.bind fun w2 S4 φ4 H4 v4 _ p4 t4 g4 r4 q4 => ?_⟩
      exact hr' g4 (r2.mono (p3.trans p4) (t3.trans t4)) r4 (tru_bl q4)

/-! ### and, or, not, if -/
theorem tru_ok2 {φ : List Addr} {H : Hp} {S : Store} {u : U} {x : V} {Q : Bool → Hp → Prop} {Ex : XK} (g : Sim D φ S H) (r : RelU D φ H u x) (q : SatR D (tru S u) (fun _ _ (a b : Bool) => a = b) φ H Q Ex) : ∃ k, TruV D.K x H k ∧ Q k H := by
  obtain ⟨k, hk, q⟩ := SatR.ofO q
  exact ⟨k, truV_ok g r hk, q.here g rfl⟩
/-- a test by its value -/
theorem it_val {a : E} {x : Expr} (hK : X.K = D.K) (ha : PE X x (tI D P cf W a)) (hx : ∀ whole, isTrue x X.env whole = (do let v ← whole; standAt x.pos; holding [v] (truthy v))) : PT X x (tIt D P cf W a) := by
  refine PT.imp (pt_truth ha hx) fun σ H Q ⟨φ, env, S, g, e, q⟩ => ?_
  unfold evt at q
  refine ⟨φ, env, S, g, e, q.bind fun u S1 φ1 H1 v _ p1 t1 g1 r1 q1 => ?_⟩
  rw [hK]
  exact tru_ok2 g1 r1 q1
theorem ie_and {a b : E} {x y : Expr} {r : List Expr} {pos : Pos} (hK : X.K = D.K) (ha : PE X x (tI D P cf W a)) (hb : PE X (.BoolOp .And (y :: r) pos) (tI D P cf W b)) : PE X (.BoolOp .And (x :: y :: r) pos) (tI D P cf W (.and a b)) := by
  refine PE.imp (pe_andT ha hb) fun σ H Q ⟨φ, env, S, g, e, q⟩ => ?_
  unfold ev at q
  refine ⟨φ, env, S, g, e, q.bind fun u S1 φ1 H1 v _ p1 t1 g1 r1 q1 => ?_⟩
  cases hk : truU S1 u with
  | none => rw [hk] at q1; exact q1.elim
  | some k =>
    rw [hk] at q1
    refine ⟨k, by rw [hK]; exact truV_ok g1 r1 hk, ?_⟩
    cases k with
    | true => rw [if_pos rfl]; exact ⟨φ1, env, S1, g1, e.mono p1 t1, q1⟩
    | false => rw [if_neg Bool.false_ne_true]; exact SatR.here (u := u) q1 g1 r1
theorem ie_or {a b : E} {x y : Expr} {r : List Expr} {pos : Pos} (hK : X.K = D.K) (ha : PE X x (tI D P cf W a)) (hb : PE X (.BoolOp .Or (y :: r) pos) (tI D P cf W b)) : PE X (.BoolOp .Or (x :: y :: r) pos) (tI D P cf W (.or a b)) := by
  refine PE.imp (pe_orT ha hb) fun σ H Q ⟨φ, env, S, g, e, q⟩ => ?_
  unfold ev at q
  refine ⟨φ, env, S, g, e, q.bind fun u S1 φ1 H1 v _ p1 t1 g1 r1 q1 => ?_⟩
  cases hk : truU S1 u with
  | none => rw [hk] at q1; exact q1.elim
  | some k =>
    rw [hk] at q1
    refine ⟨k, by rw [hK]; exact truV_ok g1 r1 hk, ?_⟩
    cases k with
    | false => rw [if_neg Bool.false_ne_true]; exact ⟨φ1, env, S1, g1, e.mono p1 t1, q1⟩
    | true => rw [if_pos rfl]; exact SatR.here (u := u) q1 g1 r1
theorem ie_not {a : E} {x : Expr} {pos : Pos} (hK : X.K = D.K) (ha : PE X x (tI D P cf W a)) : PE X (.UnaryOp .Not x pos) (tI D P cf W (.not a)) := by
  refine PE.imp (pe_notT ha) fun σ H Q ⟨φ, env, S, g, e, q⟩ => ?_
  unfold ev at q
  refine ⟨φ, env, S, g, e, q.bind fun u S1 φ1 H1 v _ p1 t1 g1 r1 q1 => ?_⟩
  obtain ⟨z, hz, q1⟩ := q1.ofO
  obtain ⟨k, hk, rfl⟩ := Option.map_eq_some_iff.mp hz
  exact ⟨k, by rw [hK]; exact truV_ok g1 r1 hk, q1.here g1 (.bl _)⟩
theorem it_and {a b : E} {x y : Expr} {r : List Expr} {pos : Pos} (ha : PT X x (tIt D P cf W a)) (hb : PW X (.BoolOp .And (y :: r) pos) (tIt D P cf W b)) : PW X (.BoolOp .And (x :: y :: r) pos) (tIt D P cf W (.and a b)) := by
  refine PW.imp (pw_and ha hb) fun σ H Q ⟨φ, env, S, g, e, q⟩ => ?_
  unfold evt ev at q
  rw [R.bind_assoc] at q
  refine ⟨φ, env, S, g, e, ?_⟩
  unfold evt
  have q2 : SatR D (((ev P cf a env S).bind fun x S => tru S x).bind fun k S => if k = true then evt P cf b env S else .val false S) (fun _ _ (a b : Bool) => a = b) φ H Q (fun c d H1 => W c d σ H1) := by
    rw [R.bind_assoc]
    cases h1 : ev P cf a env S with
    | val u S1 =>
      rw [h1] at q
      cases hk : truU S1 u with
      | none =>
        simp only [R.bind, hk] at q
        exact q.elim
      | some k =>
        cases k with
        | true =>
          simp only [R.bind, hk] at q
          simp only [R.bind, tru, hk, ofO, if_true]
          exact q
        | false =>
          simp only [R.bind, hk] at q
          simp only [R.bind, tru, hk, ofO, Bool.false_eq_true, if_false]
          simp only [tru, hk, ofO] at q
          exact q
    | exc c d S1 => rw [h1] at q; exact q
    | stuck => rw [h1] at q; exact q
  refine q2.bind fun k S1 φ1 H1 k' _ p1 t1 g1 r1 q1 => ?_
  subst r1
  cases k with
  | true => rw [if_pos rfl]; exact ⟨φ1, env, S1, g1, e.mono p1 t1, q1⟩
  | false => rw [if_neg Bool.false_ne_true]; exact SatR.here (rel := fun _ _ (a b : Bool) => a = b) (u := false) q1 g1 rfl
theorem it_or {a b : E} {x y : Expr} {r : List Expr} {pos : Pos} (ha : PT X x (tIt D P cf W a)) (hb : PW X (.BoolOp .Or (y :: r) pos) (tIt D P cf W b)) : PW X (.BoolOp .Or (x :: y :: r) pos) (tIt D P cf W (.or a b)) := by
  refine PW.imp (pw_or ha hb) fun σ H Q ⟨φ, env, S, g, e, q⟩ => ?_
  unfold evt ev at q
  rw [R.bind_assoc] at q
  refine ⟨φ, env, S, g, e, ?_⟩
  unfold evt
  have q2 : SatR D (((ev P cf a env S).bind fun x S => tru S x).bind fun k S => if k = true then .val true S else evt P cf b env S) (fun _ _ (a b : Bool) => a = b) φ H Q (fun c d H1 => W c d σ H1) := by
    rw [R.bind_assoc]
    cases h1 : ev P cf a env S with
    | val u S1 =>
      rw [h1] at q
      cases hk : truU S1 u with
      | none =>
        simp only [R.bind, hk] at q
        exact q.elim
      | some k =>
        cases k with
        | false =>
          simp only [R.bind, hk] at q
          simp only [R.bind, tru, hk, ofO, Bool.false_eq_true, if_false]
          exact q
        | true =>
          simp only [R.bind, hk] at q
          simp only [R.bind, tru, hk, ofO, if_true]
          simp only [tru, hk, ofO] at q
          exact q
    | exc c d S1 => rw [h1] at q; exact q
    | stuck => rw [h1] at q; exact q
  refine q2.bind fun k S1 φ1 H1 k' _ p1 t1 g1 r1 q1 => ?_
  subst r1
  cases k with
  | false => rw [if_neg Bool.false_ne_true]; exact ⟨φ1, env, S1, g1, e.mono p1 t1, q1⟩
  | true => rw [if_pos rfl]; exact SatR.here (rel := fun _ _ (a b : Bool) => a = b) (u := true) q1 g1 rfl
theorem it_not {a : E} {x : Expr} {pos : Pos} (ha : PT X x (tIt D P cf W a)) : PT X (.UnaryOp .Not x pos) (tIt D P cf W (.not a)) := by
  refine PT.imp (pt_not ha) fun σ H Q ⟨φ, env, S, g, e, q⟩ => ?_
  refine ⟨φ, env, S, g, e, ?_⟩
  unfold evt ev at q
  unfold evt
  rw [R.bind_assoc] at q
  cases h1 : ev P cf a env S with
  | val u S1 =>
    rw [h1] at q
    have q : SatR D ((ofO S1 ((truU S1 u).map fun b => U.bl (!b))).bind fun x S => tru S x) (fun _ _ (a b : Bool) => a = b) φ H Q (fun c d H1 => W c d σ H1) := q
    show SatR D (ofO S1 (truU S1 u)) _ _ _ _ _
    cases hk : truU S1 u with
    | none => rw [hk] at q; exact q.elim
    | some k =>
      rw [hk] at q
      intro φ1 H1 k' p t g1 r
      subst r
      exact q φ1 H1 _ p t g1 rfl
  | exc c d S1 => rw [h1] at q; exact q
  | stuck => rw [h1] at q; exact q
theorem ie_ife {c a b : E} {z x y : Expr} {pos : Pos} (hc : PT X z (tIt D P cf W c)) (ha : PE X x (tI D P cf W a)) (hb : PE X y (tI D P cf W b)) : PE X (.IfExp z x y pos) (tI D P cf W (.ife c a b)) := by
  refine PE.imp (pe_ifExp hc ha hb) fun σ H Q ⟨φ, env, S, g, e, q⟩ => ?_
  unfold ev at q
  refine ⟨φ, env, S, g, e, ?_⟩
  have q2 : SatR D ((evt P cf c env S).bind fun k S => if k = true then ev P cf a env S else ev P cf b env S) (RelU D) φ H Q (fun c d H1 => W c d σ H1) := by
    unfold evt
    rw [R.bind_assoc]
    cases h1 : ev P cf c env S with
    | val u S1 =>
      rw [h1] at q
      cases hk : truU S1 u with
      | none => simp only [R.bind, hk] at q; exact q.elim
      | some k =>
        simp only [R.bind, hk] at q
        simp only [R.bind, tru, hk, ofO]
        cases k
        · simp only [Bool.false_eq_true, if_false]; exact q
        · simp only [if_true]; exact q
    | exc c d S1 => rw [h1] at q; exact q
    | stuck => rw [h1] at q; exact q
  refine q2.bind fun k S1 φ1 H1 k' _ p1 t1 g1 r1 q1 => ?_
  subst r1
  cases k with
  | true => rw [if_pos rfl]; exact ⟨φ1, env, S1, g1, e.mono p1 t1, q1⟩
  | false => rw [if_neg Bool.false_ne_true]; exact ⟨φ1, env, S1, g1, e.mono p1 t1, q1⟩
end
end PyI
set_option Elab.async false
set_option linter.all false
set_option autoImplicit false
set_option maxRecDepth 100000
set_option maxHeartbeats 2000000
/-! Displays, items, calls, built-ins, what is walked, comprehensions. -/
namespace PyI
open PySem L2
section
variable {D : Wd} {G : Gc} {P : Pg} {cf : Nat → List U → Store → R U} {j : Nat} {C : Cfg} {W : WX} {X : Cx}
theorem ia_nil : PA X [] (tIs D P cf W .nil) := PA.imp pa_nil fun σ H Q ⟨φ, env, S, g, e, q⟩ => by
  unfold evs at q
  exact SatR.here (rel := RelUs D) (v := []) q g .nil
theorem ia_cons {a : E} {r : Es} {x : Expr} {es : List Expr} (ha : PE X x (tI D P cf W a)) (hr : PA X es (tIs D P cf W r)) (hs : starB x = false) : PA X (x :: es) (tIs D P cf W (.cons a r)) := by
  refine PA.imp (pa_cons ha hr (star_cons hs)) fun σ H Q ⟨φ, env, S, g, e, q⟩ => ?_
  unfold evs at q
  refine ⟨φ, env, S, g, e, q.bind fun u S1 φ1 H1 v _ p1 t1 g1 r1 q1 => ?_⟩
  refine ⟨φ1, env, S1, g1, e.mono p1 t1, q1.bind fun us S2 φ2 H2 vs _ p2 t2 g2 r2 q2 => ?_⟩
  exact SatR.here (rel := RelUs D) (v := v :: vs) q2 g2 (.cons (r1.mono p2 t2) r2)
theorem ie_tup {r : Es} {es : List Expr} {k : Nat} {pos : Pos} (hr : PA X es (tIs D P cf W r)) : PE X (.Tuple es k pos) (tI D P cf W (.tup r)) := by
  refine PE.imp (pe_tup hr) fun σ H Q ⟨φ, env, S, g, e, q⟩ => ?_
  unfold ev at q
  refine ⟨φ, env, S, g, e, q.bind fun us S1 φ1 H1 vs _ p1 t1 g1 r1 q1 => ?_⟩
  by_cases h : us.length ≤ LINE
  · rw [if_pos h] at q1
    exact ⟨by rw [sizeLine_eq, ← r1.len]; exact h, q1.newT g1 r1⟩
  · rw [if_neg h] at q1
    exact q1.elim
theorem ie_lst {r : Es} {es : List Expr} {pos : Pos} (hr : PA X es (tIs D P cf W r)) : PE X (.List es pos) (tI D P cf W (.lst r)) := by
  refine PE.imp (pe_lst hr) fun σ H Q ⟨φ, env, S, g, e, q⟩ => ?_
  unfold ev at q
  refine ⟨φ, env, S, g, e, q.bind fun us S1 φ1 H1 vs _ p1 t1 g1 r1 q1 => ?_⟩
  exact q1.newL g1 r1
def sliceB : Expr → Bool
  | .Slice _ _ _ _ => true
  | _ => false
theorem plain_ix {b : Expr} (h : sliceB b = false) : PlainIx b := by
  intro o i
  cases b <;> first | rfl | cases h
theorem ie_ix {a b : E} {x y : Expr} {pos : Pos} (hK : X.K = D.K) (hu : X.A.units + 1 < cLine) (ha : PE X x (tI D P cf W a)) (hb : PE X y (tI D P cf W b)) (hs : sliceB y = false) : PE X (.Subscript x y pos) (tI D P cf W (.ix a b)) := by
  refine PE.imp (pe_ix (ix_seq.or (ix_dct hu)) ha hb (plain_ix hs)) fun σ H Q ⟨φ, env, S, g, e, q⟩ => ?_
  unfold ev at q
  refine ⟨φ, env, S, g, e, q.bind fun u S1 φ1 H1 v _ p1 t1 g1 r1 q1 => ?_⟩
  refine ⟨φ1, env, S1, g1, e.mono p1 t1, q1.bind fun w S2 φ2 H2 z _ p2 t2 g2 r2 q2 => ?_⟩
  show rIx X.K v z H2 Q ∨ rIxDk v z H2 Q
  rw [hK]
  exact ix_ok g2 (r1.mono p2 t2) r2 q2
theorem io_none : PO X none (tIo D P cf W .none) := PO.imp po_none fun σ H Q ⟨φ, env, S, g, e, q⟩ => by
  unfold evo at q
  exact SatR.here (rel := fun _ _ (a b : Option Int) => a = b) q g rfl
theorem io_some {a : E} {x : Expr} (ha : PE X x (tI D P cf W a)) : PO X (some x) (tIo D P cf W (.some a)) := PO.imp (po_some ha) fun σ H Q ⟨φ, env, S, g, e, q⟩ => by
  unfold evo at q
  refine ⟨φ, env, S, g, e, q.bind fun u S1 φ1 H1 v _ p1 t1 g1 r1 q1 => ?_⟩
  cases r1 with
  | int i => exact ⟨i, rfl, SatR.here (rel := fun _ _ (a b : Option Int) => a = b) q1 g1 rfl⟩
  | _ => exact q1.elim
theorem ie_cut {a : E} {lo hi : Eo} {x : Expr} {l h : Option Expr} {pos p2 : Pos} (hK : X.K = D.K) (ha : PE X x (tI D P cf W a)) (hl : PO X l (tIo D P cf W lo)) (hh : PO X h (tIo D P cf W hi)) : PE X (.Subscript x (.Slice l h none p2) pos) (tI D P cf W (.cut a lo hi)) := by
  refine PE.imp (pe_slice (sl_list.or (sl_tupA.or sl_str)) ha hl hh) fun σ H Q ⟨φ, env, S, g, e, q⟩ => ?_
  unfold ev at q
  refine ⟨φ, env, S, g, e, q.bind fun u S1 φ1 H1 v _ p1 t1 g1 r1 q1 => ?_⟩
  refine ⟨φ1, env, S1, g1, e.mono p1 t1, q1.bind fun o1 S2 φ2 H2 o1' _ p2 t2 g2 r2 q2 => ?_⟩
  subst r2
  refine ⟨φ2, env, S2, g2, e.mono (p1.trans p2) (t1.trans t2), q2.bind fun o2 S3 φ3 H3 o2' _ p3 t3 g3 r3 q3 => ?_⟩
  subst r3
  rw [hK]
  exact cut_ok g3 (r1.mono (p2.trans p3) (t2.trans t3)) q3

/-! ### calls -/
theorem ie_call (ok : CxOk D G P cf j C W X) (hc : C.calm = true) {f : Nat} {x : PySem.Str} {r : Es} {e0 : Expr} {es : List Expr} {p pos : Pos} (hx : G.fnm[f]? = some (some x)) (h2 : gloB C x = true) (hs : (e0 :: es).all (fun e => !starB e) = true) (hr : PA X (e0 :: es) (tIs D P cf W r)) :
    PE X (.Call (.Name x p) (e0 :: es) [] pos) (tI D P cf W (.call f r)) := by
  obtain ⟨hg, hd⟩ := glo_of ok h2
  obtain ⟨fd, ps, F, h3, h4, h5⟩ := ok.fns f x hx
  rw [List.all_cons, Bool.and_eq_true] at hs
  refine PE.imp (pe_callS F ((ok.room hc).mono (Nat.le_succ _)) hg h3 h4 h5 (fun σ => passAt ok.tk σ) hr hd (star_cons (by simpa using hs.1)) (star_any hs.2)) fun σ H Q ⟨φ, env, S, g, e, q⟩ => ?_
  unfold ev at q
  refine ⟨φ, env, S, g, e, q.bind fun us S1 φ1 H1 vs _ p1 t1 g1 r1 q1 => ?_⟩
  exact ⟨φ1, S1, us, g1, r1, q1⟩
theorem bi_call {b : Bi} {us : List U} {vs : List V} {φ : List Addr} {H : Hp} {S : Store} {Q : VK} {Ex : XK} {n : PySem.Str} {v : Value} (hn : biV b = some (n, v)) (g : Sim D φ S H) (r : RelUs D φ H us vs) (h : SatR D (biU b us S) (RelU D) φ H Q Ex) : rBi D.K b vs H Q :=
  bi_ok g r h fun t e => by subst e; cases hn
theorem ie_bi (ok : CxOk D G P cf j C W X) (hc : C.calm = true) {b : Bi} {x : PySem.Str} {v : Value} {r : Es} {e0 : Expr} {es : List Expr} {p pos : Pos} (hb : biV b = some (x, v)) (h2 : gloB C x = true) (hf : x ∈ G.free) (hs : (e0 :: es).all (fun e => !starB e) = true) (hr : PA X (e0 :: es) (tIs D P cf W r)) :
    PE X (.Call (.Name x p) (e0 :: es) [] pos) (tI D P cf W (.bi b r)) := by
  obtain ⟨hg, hd⟩ := glo_of ok h2
  obtain ⟨b1, b2, b3⟩ := biV_boot hb
  rw [List.all_cons, Bool.and_eq_true] at hs
  have go : ∀ (σ : L2.St) (H : Hp) (Q : VK), tI D P cf W (.bi b r) σ H Q → tCB (rBi X.K b) (tIs D P cf W r) σ H Q := fun σ H Q ⟨φ, env, S, g, e, q⟩ => by
    unfold ev at q
    refine ⟨φ, env, S, g, e, q.bind fun us S1 φ1 H1 vs _ p1 t1 g1 r1 q1 => ?_⟩
    rw [ok.K]
    exact bi_call hb g1 r1 q1
  have rule := bi_rule (ok.calm hc) hb
  cases v with
  | builtin id => exact PE.imp (pe_callB rule hg (ok.fr x hf) b1 hr b2 b3 (star_cons (by simpa using hs.1)) (star_any hs.2)) go
  | type id => exact PE.imp (pe_callTy rule hg (ok.fr x hf) b1 hr b2 b3 (star_cons (by simpa using hs.1)) (star_any hs.2)) go
  | _ => cases b <;> cases hb

/-! ### what is walked -/
theorem okW_at {w : List (Nat × List U)} {S : Store} (h : okW w S = true) {l : Nat} {us : List U} (hm : (l, us) ∈ w) : itemsU S (.ref l) = some us := by
  unfold okW at h
  simpa using List.all_eq_true.mp h (l, us) hm
theorem relq_list {φ : List Addr} {H : Hp} {l : Nat} {a : Addr} {us : List U} (f : φ[l]? = some a) : RelQ D φ H ⟨us, [(l, us)]⟩ (Itl D.K a) := fun φ1 S1 H1 p t g ow => by
  obtain ⟨a', vs, e, s, r⟩ := g.itemsL (.ref (pre_at p f)) (okW_at ow (List.mem_singleton.mpr rfl))
  cases e
  refine ⟨fun i hi => ⟨vs, s, by rw [← r.len]; exact hi⟩, fun i u hu => ?_⟩
  obtain ⟨v, hv, rv⟩ := r.at hu
  refine ⟨⟨vs, v, s, hv⟩, fun x H2 hy => ?_⟩
  obtain ⟨rfl, hy⟩ := hy
  have e : v = x := Option.some.inj (hv.symm.trans (hy vs s))
  subst e
  exact ⟨Tm.refl _ _, g, rv⟩
theorem relq_tup {φ : List Addr} {H : Hp} {a : Addr} {us : List U} {vs : List V} (s : SqT D.K H a vs) (r : RelUs D φ H us vs) : RelQ D φ H ⟨us, []⟩ (Itt D.K a) := fun φ1 S1 H1 p t g ow => by
  have s1 := t _ _ s
  refine ⟨fun i hi => ⟨vs, s1, by rw [← r.len]; exact hi⟩, fun i u hu => ?_⟩
  obtain ⟨v, hv, rv⟩ := r.at hu
  refine ⟨⟨vs, v, s1, hv⟩, fun x H2 hy => ?_⟩
  obtain ⟨rfl, hy⟩ := hy
  have e : v = x := Option.some.inj (hv.symm.trans (hy vs s1))
  subst e
  exact ⟨Tm.refl _ _, g, rv.mono p t⟩
theorem relq_rng {φ : List Addr} {H : Hp} {lo : Int} {n : Nat} : RelQ D φ H ⟨(List.range n).map fun (k : Nat) => U.int (lo + k), []⟩ (Itr lo n) := fun φ1 S1 H1 p t g ow => by
  refine ⟨fun i hi => ?_, fun i u hu => ?_⟩
  · simp at hi; exact hi
  · rw [List.getElem?_map] at hu
    obtain ⟨k, hk, rfl⟩ := Option.map_eq_some_iff.mp hu
    have h1 : i < n := by
      have := (List.getElem?_eq_some_iff.mp hk).1
      simpa using this
    rw [List.getElem?_range h1] at hk
    cases hk
    refine ⟨h1, fun x H2 hy => ?_⟩
    obtain ⟨rfl, rfl⟩ := hy
    exact ⟨Tm.refl _ _, g, .int _⟩
theorem sq_cases {S : Store} {u : U} {q : Sq} (h : sqU S u = some q) : (∃ us, u = .tup us ∧ q = ⟨us, []⟩) ∨ ∃ l us, u = .ref l ∧ q = ⟨us, [(l, us)]⟩ ∧ itemsU S u = some us := by
  unfold sqU at h
  cases u with
  | tup us => cases h; exact .inl ⟨us, rfl, rfl⟩
  | ref l =>
    dsimp only at h
    split at h
    · cases h
      rename_i us e
      exact .inr ⟨l, us, rfl, rfl, by unfold itemsU; simp only [e]⟩
    · cases h
      rename_i us e
      exact .inr ⟨l, us, rfl, rfl, by unfold itemsU; simp only [e]⟩
    · cases h
  | _ => cases h
theorem relq_chars {φ : List Addr} {H : Hp} (y : PySem.Str) : RelQ D φ H ⟨y.cps.toList.map fun c => .str ⟨#[c]⟩, []⟩ (Its y) := fun φ2 S2 H2 p2 t2 g2 ow => ⟨fun i hi => by
    rw [List.length_map] at hi
    show y.cps.size ≤ i
    simpa using hi, fun i u hu => by
    rw [List.getElem?_map] at hu
    obtain ⟨c, hc, rfl⟩ := Option.map_eq_some_iff.mp hu
    have h1 : y.cps[i]? = some c := by simpa using hc
    refine ⟨(by
      have := (Array.getElem?_eq_some_iff.mp h1).1
      exact this), fun x H3 hy => ?_⟩
    obtain ⟨rfl, c', h2, rfl⟩ := hy
    have e : c = c' := Option.some.inj (h1.symm.trans h2)
    subst e
    exact ⟨Tm.refl _ _, g2, .str _⟩⟩
theorem ii_seq {a : E} {x tg : Expr} (hK : X.K = D.K) (ha : PE X x (tI D P cf W a)) : PI X tg x (tIq D P cf W (.seq a)) := by
  refine PI.imp (PI.or (PI.or (pi_list ha) (pi_tup ha)) (pi_str ha)) fun σ H R ⟨φ, env, S, g, e, q⟩ => ?_
  unfold evi at q
  cases h1 : ev P cf a env S with
  | stuck => rw [h1] at q; exact q.elim
  | exc c d S1 =>
    refine .inl (.inl ⟨φ, env, S, g, e, ?_⟩)
    rw [h1] at q ⊢
    exact q
  | val u S1 =>
    rw [h1] at q
    obtain ⟨sq, hq, q⟩ := SatR.ofO (S := S1) (o := sqS S1 u) q
    by_cases hz : ∃ z, u = .str z
    · obtain ⟨z, rfl⟩ := hz
      cases hq
      refine .inr ⟨φ, env, S, g, e, ?_⟩
      rw [h1]
      intro φ1 H1 v p1 t1 g1 r1
      cases r1 with
      | str y => exact ⟨_, rfl, q φ1 H1 _ p1 t1 g1 (relq_chars z)⟩
    have hq : sqU S1 u = some sq := by
      cases u with
      | str z => exact absurd ⟨z, rfl⟩ hz
      | _ => exact hq
    rcases sq_cases hq with ⟨us, rfl, rfl⟩ | ⟨l, us, rfl, rfl, hi⟩
    · refine .inl (.inr ⟨φ, env, S, g, e, ?_⟩)
      rw [h1]
      intro φ1 H1 v p1 t1 g1 r1
      cases r1 with
      | tup s r =>
        rw [hK]
        exact ⟨_, rfl, ⟨_, s⟩, q φ1 H1 _ p1 t1 g1 (relq_tup s r)⟩
    · refine .inl (.inl ⟨φ, env, S, g, e, ?_⟩)
      rw [h1]
      intro φ1 H1 v p1 t1 g1 r1
      obtain ⟨p, vs, rfl, s, r⟩ := g1.itemsL r1 hi
      cases r1 with
      | ref f =>
        rw [hK]
        exact ⟨_, rfl, ⟨vs, s⟩, q φ1 H1 _ p1 t1 g1 (relq_list f)⟩
theorem ii_rng1 (ok : CxOk D G P cf j C W X) {a : E} {x tg : Expr} {p pos : Pos} (ha : PE X x (tI D P cf W a)) (h2 : gloB C "range" = true) (hf : ("range" : PySem.Str) ∈ G.free) (hs : starB x = false) : PI X tg (.Call (.Name "range" p) [x] [] pos) (tIq D P cf W (.rng1 a)) := by
  obtain ⟨hg, hd⟩ := glo_of ok h2
  refine PI.imp (pi_range1 hg (ok.fr _ hf) (pa_cons ha pa_nil (star_cons hs)) (star_cons hs)) fun σ H R ⟨φ, env, S, g, e, q⟩ => ?_
  unfold evi at q
  refine ⟨φ, env, S, g, e, q.bind fun u S1 φ1 H1 v _ p1 t1 g1 r1 q1 => ?_⟩
  cases r1 with
  | int n =>
    dsimp only at q1
    split at q1
    · refine ⟨n, rfl, by omega, by omega, ?_⟩
      refine q1.here g1 ?_
      have h := relq_rng (D := D) (φ := φ1) (H := H1) (lo := 0) (n := n.toNat)
      simp only [Int.zero_add] at h
      exact h
    · exact q1.elim
  | _ => exact q1.elim
theorem relq_rrng {φ : List Addr} {H : Hp} {n : Nat} : RelQ D φ H ⟨((List.range n).map fun (k : Nat) => U.int k).reverse, []⟩ (Itc (((n : Nat) : Int) - 1) (-1) n) := fun φ1 S1 H1 p t g ow => by
  refine ⟨fun i hi => ?_, fun i u hu => ?_⟩
  · simp at hi; exact hi
  · have h1 : i < n := by
      have := (List.getElem?_eq_some_iff.mp hu).1
      simpa using this
    rw [List.getElem?_reverse (by simpa using h1), List.getElem?_map] at hu
    obtain ⟨k, hk, rfl⟩ := Option.map_eq_some_iff.mp hu
    rw [List.length_map, List.length_range, List.getElem?_range (by omega)] at hk
    cases hk
    refine ⟨h1, fun x H2 hy => ?_⟩
    obtain ⟨rfl, hy⟩ := hy
    subst hy
    refine ⟨Tm.refl _ _, g, ?_⟩
    have e : ((n : Int) - 1 + (i : Int) * (-1)) = ((n - 1 - i : Nat) : Int) := by omega
    rw [e]
    exact .int _
theorem ii_rrng1 (ok : CxOk D G P cf j C W X) {a : E} {x tg : Expr} {p pos p2 pos2 : Pos} (ha : PE X x (tI D P cf W a)) (h2 : gloB C "range" = true) (hf : ("range" : PySem.Str) ∈ G.free) (hs : starB x = false) (h3 : gloB C "reversed" = true) (hf3 : ("reversed" : PySem.Str) ∈ G.free) : PI X tg (.Call (.Name "reversed" p2) [.Call (.Name "range" p) [x] [] pos] [] pos2) (tIq D P cf W (.rrng1 a)) := by
  obtain ⟨hg, hd⟩ := glo_of ok h2
  obtain ⟨hg3, hd3⟩ := glo_of ok h3
  refine PI.imp (pi_revR hg3 (ok.fr _ hf3) (prg_1 hg (ok.fr _ hf) ha (star_cons hs))) fun σ H R ⟨φ, env, S, g, e, q⟩ => ?_
  unfold evi at q
  refine ⟨φ, env, S, g, e, q.bind fun u S1 φ1 H1 v _ p1 t1 g1 r1 q1 => ?_⟩
  cases r1 with
  | int n =>
    dsimp only at q1
    split at q1
    · refine ⟨n, rfl, by omega, by omega, by omega, by omega, ?_⟩
      refine q1.here g1 ?_
      have h := relq_rrng (D := D) (φ := φ1) (H := H1) (n := n.toNat)
      rw [show (0 : Int) + (((n - 0).toNat : Nat) : Int) - 1 = ((n.toNat : Nat) : Int) - 1 by omega, show (n - 0).toNat = n.toNat by omega]
      exact h
    · exact q1.elim
  | _ => exact q1.elim
theorem ii_rng2 (ok : CxOk D G P cf j C W X) {a b : E} {x y tg : Expr} {p pos : Pos} (ha : PE X x (tI D P cf W a)) (hb : PE X y (tI D P cf W b)) (h2 : gloB C "range" = true) (hf : ("range" : PySem.Str) ∈ G.free) (hs : starB x = false) (hs2 : starB y = false) : PI X tg (.Call (.Name "range" p) [x, y] [] pos) (tIq D P cf W (.rng2 a b)) := by
  obtain ⟨hg, hd⟩ := glo_of ok h2
  refine PI.imp (pi_range2 hg (ok.fr _ hf) (pa_cons ha (pa_cons hb pa_nil (star_cons hs2)) (star_cons hs)) (by rw [star_cons hs, star_cons hs2]; rfl) (star_cons hs2)) fun σ H R ⟨φ, env, S, g, e, q⟩ => ?_
  unfold evi at q
  refine ⟨φ, env, S, g, e, q.bind fun u S1 φ1 H1 v _ p1 t1 g1 r1 q1 => ?_⟩
  refine ⟨φ1, env, S1, g1, e.mono p1 t1, q1.bind fun w S2 φ2 H2 v2 _ p2 t2 g2 r2 q2 => ?_⟩
  cases r1 with
  | int n => cases r2 with
    | int m =>
      dsimp only at q2
      split at q2
      · rename_i c
        exact ⟨n, m, rfl, ⟨by omega, by omega, by omega, by omega⟩, q2.here g2 relq_rng⟩
      · exact q2.elim
    | _ => exact q2.elim
  | _ => cases r2 <;> exact q2.elim
theorem relq_rev {φ : List Addr} {H : Hp} {l : Nat} {a : Addr} {us : List U} {n : Nat} (hn : us.length = n) (f : φ[l]? = some a) : RelQ D φ H ⟨us.reverse, [(l, us)]⟩ (Itv D.K a n) := fun φ1 S1 H1 p t g ow => by
  obtain ⟨a', vs, e, s, r⟩ := g.itemsL (.ref (pre_at p f)) (okW_at ow (List.mem_singleton.mpr rfl))
  cases e
  refine ⟨fun i hi => by rw [List.length_reverse] at hi; show n ≤ i; omega, fun i u hu => ?_⟩
  have hi : i < us.length := by
    have := (List.getElem?_eq_some_iff.mp hu).1
    simpa using this
  rw [List.getElem?_reverse hi] at hu
  obtain ⟨v, hv, rv⟩ := r.at hu
  rw [hn] at hv
  refine ⟨⟨by omega, vs, v, s, hv⟩, fun x H2 hy => ?_⟩
  obtain ⟨rfl, hy⟩ := hy
  have e : v = x := Option.some.inj (hv.symm.trans (hy vs s))
  subst e
  exact ⟨Tm.refl _ _, g, rv⟩
theorem relq_revT {φ : List Addr} {H : Hp} {a : Addr} {us : List U} {vs : List V} (s : SqT D.K H a vs) (r : RelUs D φ H us vs) : RelQ D φ H ⟨us.reverse, []⟩ (RT.ItvT D.K a vs.length) := fun φ1 S1 H1 p t g ow => by
  have s1 := t _ _ s
  refine ⟨fun i hi => by rw [List.length_reverse, r.len] at hi; exact hi, fun i u hu => ?_⟩
  have hi : i < us.length := by
    have := (List.getElem?_eq_some_iff.mp hu).1
    simpa using this
  rw [List.getElem?_reverse hi] at hu
  obtain ⟨v, hv, rv⟩ := r.at hu
  rw [r.len] at hv hi
  refine ⟨⟨hi, vs, v, s1, hv⟩, fun x H2 hy => ?_⟩
  obtain ⟨rfl, hy⟩ := hy
  have e : v = x := Option.some.inj (hv.symm.trans (hy vs s1))
  subst e
  exact ⟨Tm.refl _ _, g, rv.mono p t⟩
theorem ii_rev (ok : CxOk D G P cf j C W X) {a : E} {x tg : Expr} {p pos : Pos} (ha : PE X x (tI D P cf W a)) (h2 : gloB C "reversed" = true) (hf : ("reversed" : PySem.Str) ∈ G.free) (hs : starB x = false) : PI X tg (.Call (.Name "reversed" p) [x] [] pos) (tIq D P cf W (.rev a)) := by
  obtain ⟨hg, hd⟩ := glo_of ok h2
  refine PI.imp (RT.pi_revA hg (ok.fr _ hf) ha (star_cons hs)) fun σ H R ⟨φ, env, S, g, e, q⟩ => ?_
  unfold evi at q
  refine ⟨φ, env, S, g, e, q.bind fun u S1 φ1 H1 v _ p1 t1 g1 r1 q1 => ?_⟩
  cases hq : sqU S1 u with
  | none => rw [hq] at q1; exact q1.elim
  | some sq =>
    rw [hq] at q1
    rw [ok.K]
    rcases sq_cases hq with ⟨us, rfl, rfl⟩ | ⟨l, us, rfl, rfl, hi⟩
    · cases r1 with
      | tup s r => exact ⟨_, _, rfl, .inr ⟨s, q1.here g1 (relq_revT s r)⟩⟩
    · obtain ⟨p, vs, rfl, s, r⟩ := g1.itemsL r1 hi
      cases r1 with
      | ref f => exact ⟨_, _, rfl, .inl ⟨s, q1.here g1 (relq_rev r.len f)⟩⟩
theorem Tm.tupN {H : Hp} {T : Addr} {vs : List V} (h : H T = none) : Tm D H (upd H T (.tup vs)) := Tm.new h
theorem relq_enum {φ : List Addr} {H : Hp} {l : Nat} {a : Addr} {us : List U} (f : φ[l]? = some a) : RelQ D φ H ⟨us.zipIdx.map fun p => .tup [.int p.2, p.1], [(l, us)]⟩ (Ite D.K a) := fun φ1 S1 H1 p t g ow => by
  obtain ⟨a', vs, e, s, r⟩ := g.itemsL (.ref (pre_at p f)) (okW_at ow (List.mem_singleton.mpr rfl))
  cases e
  refine ⟨fun i hi => ⟨vs, s, by rw [← r.len]; simpa using hi⟩, fun i u hu => ?_⟩
  rw [List.getElem?_map, List.getElem?_zipIdx] at hu
  obtain ⟨z, hz, rfl⟩ := Option.map_eq_some_iff.mp hu
  obtain ⟨w, hw, rfl⟩ := Option.map_eq_some_iff.mp hz
  obtain ⟨v, hv, rv⟩ := r.at hw
  refine ⟨⟨vs, v, s, hv⟩, fun x H2 hy => ?_⟩
  obtain ⟨T, x', rfl, hT, rfl, hy⟩ := hy
  have e : v = x' := Option.some.inj (hv.symm.trans (hy vs s))
  subst e
  refine ⟨Tm.tupN hT, g.tupNew hT, .tup (.of upd_same) (.cons ?_ (.cons (rv.mono (List.prefix_refl _) (Tm.tupN hT)) .nil))⟩
  simp only [Nat.zero_add]
  exact .int _
theorem ii_enum (ok : CxOk D G P cf j C W X) {a : E} {x : Expr} {elts : List Expr} {kk : Nat} {tpos p pos : Pos} (ha : PE X x (tI D P cf W a)) (h2 : gloB C "enumerate" = true) (hf : ("enumerate" : PySem.Str) ∈ G.free) (hs : starB x = false) : PI X (.Tuple elts kk tpos) (.Call (.Name "enumerate" p) [x] [] pos) (tIq D P cf W (.enum a)) := by
  obtain ⟨hg, hd⟩ := glo_of ok h2
  refine PI.imp (pi_enum hg (ok.fr _ hf) (pa_cons ha pa_nil (star_cons hs)) (star_cons hs)) fun σ H R ⟨φ, env, S, g, e, q⟩ => ?_
  unfold evi at q
  refine ⟨φ, env, S, g, e, q.bind fun u S1 φ1 H1 v _ p1 t1 g1 r1 q1 => ?_⟩
  cases hq : sqU S1 u with
  | none => rw [hq] at q1; exact q1.elim
  | some sq =>
    rw [hq] at q1
    rw [ok.K]
    rcases sq_cases hq with ⟨us, rfl, rfl⟩ | ⟨l, us, rfl, rfl, hi⟩
    · exact q1.elim
    · obtain ⟨p, vs, rfl, s, r⟩ := g1.itemsL r1 hi
      cases r1 with
      | ref f => exact ⟨_, vs, rfl, s, SatR.here (rel := RelQ D) q1 g1 (relq_enum f)⟩
theorem relq_zip {φ : List Addr} {H : Hp} {l k : Nat} {a b : Addr} {us ws : List U} (hl : us.length = ws.length) (f : φ[l]? = some a) (f2 : φ[k]? = some b) : RelQ D φ H ⟨(us.zip ws).map fun z => .tup [z.1, z.2], [(l, us), (k, ws)]⟩ (Itz D.K a b) := fun φ1 S1 H1 p t g ow => by
  obtain ⟨a', vs, e, s, r⟩ := g.itemsL (.ref (pre_at p f)) (okW_at ow List.mem_cons_self)
  obtain ⟨b', zs, e2, s2, r2⟩ := g.itemsL (.ref (pre_at p f2)) (okW_at ow (List.mem_cons_of_mem _ List.mem_cons_self))
  cases e; cases e2
  refine ⟨fun i hi => ⟨vs, zs, s, s2, .inl ?_⟩, fun i u hu => ?_⟩
  · rw [List.length_map, List.length_zip] at hi
    rw [← r.len]; omega
  · rw [List.getElem?_map] at hu
    obtain ⟨z, hz, rfl⟩ := Option.map_eq_some_iff.mp hu
    obtain ⟨h1, h2⟩ := List.getElem?_zip_eq_some.mp hz
    obtain ⟨v, hv, rv⟩ := r.at h1
    obtain ⟨v2, hv2, rv2⟩ := r2.at h2
    refine ⟨⟨vs, zs, v, v2, s, s2, hv, hv2⟩, fun x H2 hy => ?_⟩
    obtain ⟨T, x1, x2, rfl, hT, rfl, hy1, hy2⟩ := hy
    have e1 : v = x1 := Option.some.inj (hv.symm.trans (hy1 vs s))
    have e2 : v2 = x2 := Option.some.inj (hv2.symm.trans (hy2 zs s2))
    subst e1 e2
    exact ⟨Tm.tupN hT, g.tupNew hT, .tup (.of upd_same) (.cons (rv.mono (List.prefix_refl _) (Tm.tupN hT)) (.cons (rv2.mono (List.prefix_refl _) (Tm.tupN hT)) .nil))⟩
theorem ii_zip (ok : CxOk D G P cf j C W X) {a b : E} {x y : Expr} {elts : List Expr} {kk : Nat} {tpos p pos : Pos} (ha : PE X x (tI D P cf W a)) (hb : PE X y (tI D P cf W b)) (h2 : gloB C "zip" = true) (hf : ("zip" : PySem.Str) ∈ G.free) (hs : starB x = false) (hs2 : starB y = false) : PI X (.Tuple elts kk tpos) (.Call (.Name "zip" p) [x, y] [] pos) (tIq D P cf W (.zip a b)) := by
  obtain ⟨hg, hd⟩ := glo_of ok h2
  refine PI.imp (pi_zip hg (ok.fr _ hf) (pa_cons ha (pa_cons hb pa_nil (star_cons hs2)) (star_cons hs)) (star_cons hs) (star_any (by simp [hs2]))) fun σ H R ⟨φ, env, S, g, e, q⟩ => ?_
  unfold evi at q
  refine ⟨φ, env, S, g, e, q.bind fun u S1 φ1 H1 v _ p1 t1 g1 r1 q1 => ?_⟩
  refine ⟨φ1, env, S1, g1, e.mono p1 t1, q1.bind fun w S2 φ2 H2 v2 _ p2 t2 g2 r2 q2 => ?_⟩
  cases hq : sqU S2 u with
  | none => rw [hq] at q2; exact q2.elim
  | some sq =>
    cases hp : sqU S2 w with
    | none => rw [hq, hp] at q2; exact q2.elim
    | some sp =>
      rw [hq, hp] at q2
      rcases sq_cases hq with ⟨us, rfl, rfl⟩ | ⟨l, us, rfl, rfl, hi⟩
      · exact q2.elim
      · rcases sq_cases hp with ⟨ws, rfl, rfl⟩ | ⟨k, ws, rfl, rfl, hi2⟩
        · exact q2.elim
        · dsimp only at q2
          split at q2
          · rename_i hl
            rw [ok.K]
            have r1' := r1.mono p2 t2
            obtain ⟨p, vs, rfl, s, r⟩ := g2.itemsL r1' hi
            obtain ⟨p', zs, rfl, s2, rr⟩ := g2.itemsL r2 hi2
            cases r1' with
            | ref f => cases r2 with
              | ref f2 => exact ⟨_, _, vs, zs, rfl, s, s2, SatR.here (rel := RelQ D) q2 g2 (relq_zip hl f f2)⟩
          · exact q2.elim
end
end PyI
set_option Elab.async false
set_option linter.all false
set_option autoImplicit false
set_option maxRecDepth 100000
set_option maxHeartbeats 2000000
/-! Targets, comprehensions, methods of lists, isinstance. -/
namespace PyI
open PySem L2
def gsOf (ts : List Nat) : TGs := ts.foldr (fun i r => gCons (gName i) r) gNil
def gOf (K : PySem.W.Frag) : Tg → TG
  | .nm i => gName i
  | .tp ts => gTup K ts.length (gsOf ts)
def tgs : Tg → List Nat
  | .nm i => [i]
  | .tp ts => ts
theorem wipe_set {σ : L2.St} {i : Nat} {x : Option V} : ∀ {vs : List Nat}, i ∈ vs → wipe (σ.set i x) vs = wipe σ vs
  | [], h => by simp at h
  | v :: vs, h => by
    unfold wipe
    by_cases q : i ∈ vs
    · rw [wipe_set q]
    · have e : i = v := by simpa [q] using h
      subst e
      have h2 : ∀ (ws : List Nat) (σ : L2.St), i ∉ ws → wipe (σ.set i x) ws = (wipe σ ws).set i x := by
        intro ws
        induction ws with
        | nil => intro σ _; rfl
        | cons w ws ih =>
          intro σ hw
          unfold wipe
          rw [ih σ (fun z => hw (List.mem_cons_of_mem _ z)), List.set_comm]
          exact fun z => hw (z ▸ List.mem_cons_self)
      rw [h2 vs σ q, List.set_set]
theorem wipe_wipe (σ : L2.St) : ∀ (vs ws : List Nat), (∀ v ∈ ws, v ∈ vs) → wipe (wipe σ ws) vs = wipe σ vs := by
  intro vs ws
  induction ws with
  | nil => intro _; rfl
  | cons w ws ih =>
    intro h
    show wipe ((wipe σ ws).set w none) vs = wipe σ vs
    rw [wipe_set (h w List.mem_cons_self)]
    exact ih fun v hv => h v (List.mem_cons_of_mem _ hv)
theorem wipeU_len (env : Env) : ∀ vs : List Nat, (wipeU env vs).length = env.length
  | [] => rfl
  | v :: vs => by unfold wipeU; rw [List.length_set, wipeU_len env vs]
section
variable {D : Wd} {φ : List Addr} {H : Hp}
theorem RelE.wipe {env : Env} {σ : L2.St} (e : RelE D φ H env σ) : ∀ vs : List Nat, RelE D φ H (wipeU env vs) (wipe σ vs)
  | [] => e
  | v :: vs => by
    have ih := e.wipe vs
    refine ⟨by rw [wipeU_len, wipe_length, e.len], fun i u h => ?_⟩
    unfold wipeU at h
    by_cases q : v = i
    · subst q
      have hl := (List.getElem?_eq_some_iff.mp h).1
      rw [List.length_set] at hl
      rw [List.getElem?_set_self hl] at h
      cases h
    · rw [List.getElem?_set_ne q] at h
      obtain ⟨x, h1, h2⟩ := ih.at_ i u h
      exact ⟨x, by unfold L2.wipe; rw [List.getElem?_set_ne q]; exact h1, h2⟩
theorem gs_run {Q : L2.St → Hp → Prop} : ∀ {ts : List Nat} {us : List U} {vs : List V} {env : Env} {σ : L2.St}, ts.length = us.length → RelUs D φ H us vs → RelE D φ H env σ →
    (∀ σ1, RelE D φ H ((ts.zip us).foldl (fun e p => e.set p.1 (some p.2)) env) σ1 → (∀ ws : List Nat, (∀ i ∈ ts, i ∈ ws) → wipe σ1 ws = wipe σ ws) → Q σ1 H) → gsOf ts vs σ H Q
  | [], us, vs, env, σ, hl, r, e, k => by
    cases us with
    | cons u us => cases hl
    | nil => cases r; exact ⟨rfl, k σ e fun _ _ => rfl⟩
  | t :: ts, us, vs, env, σ, hl, r, e, k => by
    cases us with
    | nil => cases hl
    | cons u us =>
      cases r with
      | cons a r =>
        rename_i v vs
        refine ⟨v, vs, rfl, ?_⟩
        show gsOf ts vs (σ.set t (some v)) H Q
        refine gs_run (Nat.succ.inj hl) r (e.set a t) fun σ1 e1 hw => k σ1 e1 fun ws h => ?_
        rw [hw ws fun i hi => h i (List.mem_cons_of_mem _ hi), wipe_set (h t List.mem_cons_self)]
theorem g_run {K : PySem.W.Frag} (hK : K = D.K) {t : Tg} {u : U} {v : V} {env env1 : Env} {σ : L2.St} {Q : L2.St → Hp → Prop} (r : RelU D φ H u v) (e : RelE D φ H env σ) (hb : bindT t u env = some env1)
    (k : ∀ σ1, RelE D φ H env1 σ1 → (∀ ws : List Nat, (∀ i ∈ tgs t, i ∈ ws) → wipe σ1 ws = wipe σ ws) → Q σ1 H) : gOf K t v σ H Q := by
  cases t with
  | nm i =>
    cases hb
    exact k _ (e.set r i) fun ws h => wipe_set (h i List.mem_cons_self)
  | tp ts =>
    cases r with
    | tup s r =>
      rename_i us vs a
      have hb : (if ts.length = us.length then some ((ts.zip us).foldl (fun e p => e.set p.1 (some p.2)) env) else none) = some env1 := hb
      by_cases hl : ts.length = us.length
      · rw [if_pos hl] at hb
        cases hb
        rw [hK]
        exact ⟨a, vs, rfl, s, by rw [← r.len, hl], gs_run hl r e k⟩
      · rw [if_neg hl] at hb
        cases hb
    | _ => cases hb
end
section
variable {D : Wd} {G : Gc} {P : Pg} {cf : Nat → List U → Store → R U} {j : Nat} {C : Cfg} {W : WX} {X : Cx}
/-- a target's match -/
def locB (C : Cfg) (i : Nat) (x : PySem.Str) : Bool := decide (C.N[i]? = some x) && (match C.sc.names.lookup x with
  | some .local => true
  | some .cell => C.st x
  | _ => false)
theorem loc_of (ok : CxOk D G P cf j C W X) {i : Nat} {x : PySem.Str} (h : locB C i x = true) : X.N[i]? = some x ∧ Loc X.env.scope x ∧ (X.fn x = true ∨ X.env.scope.names.lookup x = some .local) := by
  unfold locB at h
  rw [Bool.and_eq_true, decide_eq_true_eq] at h
  rw [ok.N, ok.sc]
  refine ⟨h.1, ?_⟩
  have h2 := h.2
  split at h2
  · rename_i e; exact ⟨.inl e, .inr e⟩
  · rename_i e; exact ⟨.inr e, .inl (ok.fnS x h2)⟩
  · cases h2
def mTs (C : Cfg) : List Nat → List Expr → Bool
  | [], [] => true
  | i :: ts, .Name x _ :: es => locB C i x && mTs C ts es
  | _, _ => false
def mT (C : Cfg) : Tg → Expr → Bool
  | .nm i, .Name x _ => locB C i x
  | .tp ts, .Tuple es _ _ => C.calm && mTs C ts es
  | _, _ => false
theorem mTs_ok (ok : CxOk D G P cf j C W X) : ∀ {ts : List Nat} {es : List Expr}, mTs C ts es = true → PGs X es (gsOf ts) ∧ (assignEach es X.env).length = ts.length ∧ (assignEach es X.env).findIdx? (·.1) = none
  | [], [], _ => ⟨pgs_nil, rfl, rfl⟩
  | [], e :: es, h => by cases h
  | i :: ts, [], h => by cases h
  | i :: ts, e :: es, h => by
    cases e with
    | Name x p =>
      unfold mTs at h
      rw [Bool.and_eq_true] at h
      obtain ⟨h1, h2, h3⟩ := loc_of ok h.1
      obtain ⟨a, b, c⟩ := mTs_ok ok h.2
      refine ⟨pgs_cons (pg_name (by rw [ok.N]; exact ok.nd) h1 h2 h3) a rfl, ?_, ?_⟩
      · show (assignEach es X.env).length + 1 = ts.length + 1
        rw [b]
      · show List.findIdx? (·.1) ((false, assign (.Name x p) X.env) :: assignEach es X.env) = none
        rw [List.findIdx?_cons, c]
        rfl
    | _ => cases h
theorem mT_ok (ok : CxOk D G P cf j C W X) {t : Tg} {e : Expr} (h : mT C t e = true) : PG X e (gOf X.K t) := by
  cases t with
  | nm i => cases e with
    | Name x p =>
      obtain ⟨h1, h2, h3⟩ := loc_of ok h
      exact pg_name (by rw [ok.N]; exact ok.nd) h1 h2 h3
    | _ => cases h
  | tp ts => cases e with
    | Tuple es k p =>
      unfold mT at h
      rw [Bool.and_eq_true] at h
      obtain ⟨a, b, c⟩ := mTs_ok ok h.2
      exact pg_tup (ok.calm h.1) a b c
    | _ => cases h

/-! ### comprehensions -/
abbrev WF : WX := fun _ _ _ _ => False
def Cfg.blkd (C : Cfg) (scope : Scope) : Cfg := { N := C.N, sc := relS scope C.sc, st := fun x => scope.names.lookup x == some .cell, calm := C.calm, top := false }
theorem CxOk.blkd (ok : CxOk D G P cf j C W X) (s : Shared) (H : Hp) (scope : Scope) (cl : List (PySem.Str × Addr)) (Cc : Addr) (fp : List Addr) : CxOk D G P cf j (C.blkd scope) WF (X.blk s H scope (compEnvC scope cl Cc X.env) fp) where
  K := ok.K
  N := ok.N
  nd := ok.nd
  sc := by
    show relabel scope X.env = relS scope C.sc
    rw [← ok.sc]
    rfl
  calm := ok.calm
  room := ok.room
  tk := takes0
  po := PassesOwn.never
  fnS := fun x h => h
  fr := ok.fr
  gl := ok.gl
  top := fun h => by cases h
  exs := ok.exs
  noi := ok.noi
  exc := ok.exc
  exm := ok.exm
  dnm := ok.dnm
  mne := ok.mne
  ine := ok.ine
  nmd := ok.nmd
  cls := ok.cls
  flf := ok.flf
  mth := ok.mth
  prp := ok.prp
  ini := ok.ini
  fns := ok.fns
theorem loopC_run {t : Tg} {own : List Nat} {c : Eo} {e : E} {l : Nat} {w : List (Nat × List U)} {env : Env} {σ : L2.St} {J : L2.It} {items : List U} {φ0 : List Addr} {H0 : Hp} {Dl : Addr} {Qd : Hp → Prop}
    (hq : RelQ D φ0 H0 ⟨items, w⟩ J) (he0 : RelE D φ0 H0 env σ) (ht : ∀ i ∈ tgs t, i ∈ own) (hK : X.K = D.K)
    {φ : List Addr} {S : Store} {H : Hp} (p : φ0 <+: φ) (tm : Tm D H0 H) (g : Sim D φ S H) (hl : φ[l]? = some Dl)
    (q : SatR D (noX (loopC t own (evc P cf c) (ev P cf e) l w env items S)) (fun _ _ (_ : Unit) (_ : Unit) => True) φ H (fun _ H' => Qd H') (fun _ _ _ => False)) :
    ∃ Wi : Nat → Nat → Hp → Prop, (∃ m, Wi 0 m H) ∧ ∀ i m H, Wi i m H → (J.stop i H ∧ Qd H) ∨ (J.go i H ∧ ∃ Nx : Hp → Prop, (∀ H', Nx H' → ∃ m', m' < m ∧ Wi (i + 1) m' H') ∧
      ∀ x H', J.yld i H x H' → gOf X.K t x (wipe σ own) H' fun σ2 H2 => wipe σ2 own = wipe σ own ∧ tIc D P cf WF c σ2 H2 fun b H3 => if b = true then tI D P cf WF e σ2 H3 fun y H4 => ∃ acc, H4 Dl = some (.lst acc) ∧ acc.length < sizeLine ∧ Nx (upd H4 Dl (.lst (acc ++ [y]))) else Nx H3) := by
  let Wi : Nat → Nat → Hp → Prop := fun i m H => ∃ φ S, φ0 <+: φ ∧ Tm D H0 H ∧ Sim D φ S H ∧ φ[l]? = some Dl ∧ i + m = items.length ∧ SatR D (noX (loopC t own (evc P cf c) (ev P cf e) l w env (items.drop i) S)) (fun _ _ (_ : Unit) (_ : Unit) => True) φ H (fun _ H' => Qd H') (fun _ _ _ => False)
  refine ⟨Wi, ⟨items.length, φ, S, p, tm, g, hl, by omega, q⟩, fun i m H hW => ?_⟩
  obtain ⟨φ, S, p, tm, g, hl, him, q⟩ := hW
  by_cases hi : i < items.length
  · have hd : items.drop i = items[i] :: items.drop (i + 1) := List.drop_eq_getElem_cons hi
    rw [hd] at q
    unfold loopC at q
    split at q
    · rename_i ow
      obtain ⟨_, hq2⟩ := hq φ S H p tm g ow
      obtain ⟨go, yl⟩ := hq2 i items[i] (List.getElem?_eq_getElem hi)
      refine .inr ⟨go, Wi (i + 1) (m - 1), fun H' hN => ⟨m - 1, by omega, hN⟩, fun x H' hy => ?_⟩
      obtain ⟨t1, g1, r1⟩ := yl x H' hy
      cases hb : bindT t items[i] (wipeU env own) with
      | none => rw [hb] at q; exact q.elim
      | some env1 =>
        rw [hb] at q
        refine g_run hK r1 (((he0.mono p (tm.trans t1))).wipe own) hb fun σ1 e1 hw => ⟨by rw [hw own ht, wipe_wipe σ own own fun _ h => h], ?_⟩
        -- the test
        dsimp only at q
        have q' : SatR D (noX ((evc P cf c env1 S).bind fun k S1 => if k then (ev P cf e env1 S1).bind fun y S2 => (match S2[l]? with
          | some (.lst acc) => if acc.length < LINE then loopC t own (evc P cf c) (ev P cf e) l w env (items.drop (i + 1)) (S2.set l (.lst (acc ++ [y]))) else .stuck
          | _ => .stuck) else loopC t own (evc P cf c) (ev P cf e) l w env (items.drop (i + 1)) S1)) (fun _ _ (_ : Unit) (_ : Unit) => True) φ H' (fun _ H' => Qd H') (fun _ _ _ => False) := q.mono (List.prefix_refl _) t1
        refine ⟨φ, env1, S, g1, e1, ?_⟩
        cases hc : evc P cf c env1 S with
        | stuck => rw [hc] at q'; exact q'.elim
        | exc c1 d1 S1 => rw [hc] at q'; exact q'.elim
        | val k S1 =>
          rw [hc] at q'
          intro φ2 H2 k' p2 t2 g2 rk
          subst rk
          have q2 := q'.mono p2 t2
          cases k with
          | false =>
            rw [if_neg Bool.false_ne_true]
            exact ⟨φ2, S1, p.trans p2, (tm.trans t1).trans t2, g2, pre_at p2 hl, by omega, q2⟩
          | true =>
            rw [if_pos rfl]
            refine ⟨φ2, env1, S1, g2, e1.mono p2 t2, ?_⟩
            have q2 : SatR D (noX ((ev P cf e env1 S1).bind fun y S2 => (match S2[l]? with
              | some (.lst acc) => if acc.length < LINE then loopC t own (evc P cf c) (ev P cf e) l w env (items.drop (i + 1)) (S2.set l (.lst (acc ++ [y]))) else .stuck
              | _ => .stuck))) (fun _ _ (_ : Unit) (_ : Unit) => True) φ2 H2 (fun _ H' => Qd H') (fun _ _ _ => False) := q2
            cases hv : ev P cf e env1 S1 with
            | stuck => rw [hv] at q2; exact q2.elim
            | exc c1 d1 S1 => rw [hv] at q2; exact q2.elim
            | val y S2 =>
              rw [hv] at q2
              intro φ3 H3 yv p3 t3 g3 ry
              have q3 : SatR D (noX (match S2[l]? with
                | some (.lst acc) => if acc.length < LINE then loopC t own (evc P cf c) (ev P cf e) l w env (items.drop (i + 1)) (S2.set l (.lst (acc ++ [y]))) else .stuck
                | _ => .stuck)) (fun _ _ (_ : Unit) (_ : Unit) => True) φ3 H3 (fun _ H' => Qd H') (fun _ _ _ => False) := q2.mono p3 t3
              split at q3
              · rename_i acc ha
                split at q3
                · rename_i hz
                  have fl := pre_at p3 (pre_at p2 hl)
                  obtain ⟨vs, h1, rs⟩ := g3.cell l _ Dl ha fl
                  refine ⟨vs, h1, by rw [sizeLine_eq, ← rs.len]; exact hz, ?_⟩
                  have t4 := Tm.set (D := D) (o' := .lst (vs ++ [yv])) h1 rfl
                  exact ⟨φ3, _, (p.trans p2).trans p3, ((tm.trans t1).trans t2).trans (t3.trans t4), g3.set (c' := .lst (acc ++ [y])) (o' := .lst (vs ++ [yv])) ha fl rfl rfl fun tm2 => ⟨_, upd_same, (rs.mono (List.prefix_refl _) tm2).app (.cons (ry.mono (List.prefix_refl _) tm2) .nil)⟩, fl, by omega, q3.mono (List.prefix_refl _) t4⟩
                · exact q3.elim
              · exact q3.elim
    · exact q.elim
  · rw [List.drop_eq_nil_of_le (by omega)] at q
    unfold loopC at q
    split at q
    · rename_i ow
      obtain ⟨hs, _⟩ := hq φ S H p tm g ow
      exact .inl ⟨hs i (by show items.length ≤ i; omega), q φ H () (List.prefix_refl _) (Tm.refl _ _) g trivial⟩
    · exact q.elim
theorem comp_run (hK : X.K = D.K) {own : List (PySem.Str × Nat)} {t : Tg} {it : It} {c : Eo} {e : E} (ht : ∀ i ∈ tgs t, i ∈ own.map (·.2)) {σ : L2.St} {H : Hp} {Q : VK} (q : tI D P cf W (.comp (own.map (·.2)) t it c e) σ H Q) :
    tLc (tIq D P cf W it) (gOf X.K t) (tIc D P cf WF c) (tI D P cf WF e) (own.map (·.2)) σ H Q := by
  obtain ⟨φ, env, S, g, en, q⟩ := q
  unfold ev at q
  refine ⟨φ, env, S, g, en, q.bind fun sq S1 φ1 H1 J _ p1 t1 g1 r1 q1 => fun Dl hD => ?_⟩
  have e1 : (φ1 ++ [Dl])[S1.length]? = some Dl := by
    rw [← g1.len, List.getElem?_append_right (Nat.le_refl _), Nat.sub_self]; rfl
  have g2 := g1.new (c := .lst []) (o := .lst []) hD ⟨[], upd_same, .nil⟩ rfl
  have t2 : Tm D H1 (upd H1 Dl (.lst [])) := Tm.new hD
  have q2 := q1.mono (List.prefix_append φ1 [Dl]) t2
  refine loopC_run (e := e) (X := X) (items := sq.items) (w := sq.watch) (l := S1.length) r1 (en.mono p1 t1) ht hK (List.prefix_append _ _) t2 g2 e1 ?_
  refine (q2.bind (rel := fun _ _ (_ : Unit) (_ : Unit) => True) fun u S3 φ3 H3 _ _ p3 t3 g3 _ q3 => q3.here g3 (.ref (pre_at p3 e1))) |> fun z => ?_
  cases hL : loopC t (own.map (·.2)) (evc P cf c) (ev P cf e) S1.length sq.watch env sq.items (S1 ++ [.lst []]) with
  | val u S3 => rw [hL] at z; exact z
  | exc c1 d1 S3 => rw [hL] at z; exact z
  | stuck => rw [hL] at z; exact z
theorem noX_bind {α β : Type} {γ δ : Type} {r : R α} {f : α → Store → R β} {rel : List Addr → Hp → β → γ → Prop} {rel1 : List Addr → Hp → α → δ → Prop} {φ : List Addr} {H : Hp} {Q : γ → Hp → Prop} {Q1 : δ → Hp → Prop} {Ex Ex1 : XK} (q : SatR D (noX (r.bind f)) rel φ H Q Ex)
    (k : ∀ (a : α) (S1 : Store) (φ1 : List Addr) (H1 : Hp) (v : δ), φ <+: φ1 → Tm D H H1 → Sim D φ1 S1 H1 → rel1 φ1 H1 a v → SatR D (noX (f a S1)) rel φ1 H1 Q Ex → Q1 v H1) : SatR D r rel1 φ H Q1 Ex1 ∧ ∃ a S1, r = .val a S1 := by
  cases r with
  | stuck => exact q.elim
  | exc c d S1 => exact q.elim
  | val a S1 => 
    have q : SatR D (noX (f a S1)) rel φ H Q Ex := q
    exact ⟨fun φ1 H1 v p t g rv => k a S1 φ1 H1 v p t g rv (q.mono p t), a, S1, rfl⟩
theorem noX_sat {α γ : Type} {r : R α} {rel : List Addr → Hp → α → γ → Prop} {φ : List Addr} {H : Hp} {Q : γ → Hp → Prop} {Ex Ex1 : XK} (q : SatR D r rel φ H Q Ex) (h : ∃ a S1, r = .val a S1) : SatR D (noX r) rel φ H Q Ex1 := by
  obtain ⟨a, S1, rfl⟩ := h
  exact q
theorem loopG_run {t t1 : Tg} {own own1 : List Nat} {c c1 : Eo} {e : E} {it1 : It} {l : Nat} {w : List (Nat × List U)} {env : Env} {σ : L2.St} {J : L2.It} {items : List U} {φ0 : List Addr} {H0 : Hp} {Dl : Addr} {Qd : Hp → Prop}
    (hq : RelQ D φ0 H0 ⟨items, w⟩ J) (he0 : RelE D φ0 H0 env σ) (ht : ∀ i ∈ tgs t, i ∈ own) (ht1 : ∀ i ∈ tgs t1, i ∈ own1) (hK : X.K = D.K)
    {φ : List Addr} {S : Store} {H : Hp} (p : φ0 <+: φ) (tm : Tm D H0 H) (g : Sim D φ S H) (hl : φ[l]? = some Dl)
    (q : SatR D (noX (loopG t own (fun env1 S1 => (evc P cf c env1 S1).bind fun k S1 => if k then (evi P cf it1 env1 S1).bind fun q1 S2 => loopC t1 own1 (evc P cf c1) (ev P cf e) l q1.watch env1 q1.items S2 else .val () S1) w env items S)) (fun _ _ (_ : Unit) (_ : Unit) => True) φ H (fun _ H' => Qd H') (fun _ _ _ => False)) :
    ∃ Wi : Nat → Nat → Hp → Prop, (∃ m, Wi 0 m H) ∧ ∀ i m H, Wi i m H → (J.stop i H ∧ Qd H) ∨ (J.go i H ∧ ∃ Nx : Hp → Prop, (∀ H', Nx H' → ∃ m', m' < m ∧ Wi (i + 1) m' H') ∧
      ∀ x H', J.yld i H x H' → gOf X.K t x (wipe σ own) H' fun σ2 H2 => wipe σ2 own = wipe σ own ∧ tIc D P cf WF c σ2 H2 fun b H3 => if b = true then tIq D P cf WF it1 σ2 H3 fun J1 H4 =>
        ∃ W1 : Nat → Nat → Hp → Prop, (∃ m, W1 0 m H4) ∧ ∀ j k H, W1 j k H → (J1.stop j H ∧ Nx H) ∨ (J1.go j H ∧ ∃ Nx1 : Hp → Prop, (∀ H', Nx1 H' → ∃ k', k' < k ∧ W1 (j + 1) k' H') ∧
          ∀ x H', J1.yld j H x H' → gOf X.K t1 x (wipe σ2 own1) H' fun σ3 H5 => wipe σ3 own1 = wipe σ2 own1 ∧ tIc D P cf WF c1 σ3 H5 fun b H6 => if b = true then tI D P cf WF e σ3 H6 fun y H7 => ∃ acc, H7 Dl = some (.lst acc) ∧ acc.length < sizeLine ∧ Nx1 (upd H7 Dl (.lst (acc ++ [y]))) else Nx1 H6) else Nx H3) := by
  let bd : Env → Store → R Unit := fun env1 S1 => (evc P cf c env1 S1).bind fun k S1 => if k then (evi P cf it1 env1 S1).bind fun q1 S2 => loopC t1 own1 (evc P cf c1) (ev P cf e) l q1.watch env1 q1.items S2 else .val () S1
  let Wi : Nat → Nat → Hp → Prop := fun i m H => ∃ φ S, φ0 <+: φ ∧ Tm D H0 H ∧ Sim D φ S H ∧ φ[l]? = some Dl ∧ i + m = items.length ∧ SatR D (noX (loopG t own bd w env (items.drop i) S)) (fun _ _ (_ : Unit) (_ : Unit) => True) φ H (fun _ H' => Qd H') (fun _ _ _ => False)
  refine ⟨Wi, ⟨items.length, φ, S, p, tm, g, hl, by omega, q⟩, fun i m H hW => ?_⟩
  obtain ⟨φ, S, p, tm, g, hl, him, q⟩ := hW
  by_cases hi : i < items.length
  · have hd : items.drop i = items[i] :: items.drop (i + 1) := List.drop_eq_getElem_cons hi
    rw [hd] at q
    unfold loopG at q
    split at q
    · rename_i ow
      obtain ⟨_, hq2⟩ := hq φ S H p tm g ow
      obtain ⟨go, yl⟩ := hq2 i items[i] (List.getElem?_eq_getElem hi)
      refine .inr ⟨go, Wi (i + 1) (m - 1), fun H' hN => ⟨m - 1, by omega, hN⟩, fun x H' hy => ?_⟩
      obtain ⟨t1', g1, r1⟩ := yl x H' hy
      cases hb : bindT t items[i] (wipeU env own) with
      | none => rw [hb] at q; exact q.elim
      | some env1 =>
        rw [hb] at q
        refine g_run hK r1 (((he0.mono p (tm.trans t1'))).wipe own) hb fun σ1 e1 hw => ⟨by rw [hw own ht, wipe_wipe σ own own fun _ h => h], ?_⟩
        have q' : SatR D (noX ((bd env1 S).bind fun _ S1 => loopG t own bd w env (items.drop (i + 1)) S1)) (fun _ _ (_ : Unit) (_ : Unit) => True) φ H' (fun _ H' => Qd H') (fun _ _ _ => False) := q.mono (List.prefix_refl _) t1'
        dsimp only [bd] at q'
        rw [R.bind_assoc] at q'
        refine ⟨φ, env1, S, g1, e1, ?_⟩
        refine (noX_bind (rel1 := fun _ _ (a b : Bool) => a = b) q' fun k S1 φ2 H2 k' p2 t2 g2 rk q2 => ?_).1
        subst rk
        cases k with
        | false =>
          rw [if_neg Bool.false_ne_true] at q2 ⊢
          exact ⟨φ2, S1, p.trans p2, (tm.trans t1').trans t2, g2, pre_at p2 hl, by omega, q2⟩
        | true =>
          rw [if_pos rfl] at q2 ⊢
          rw [R.bind_assoc] at q2
          refine ⟨φ2, env1, S1, g2, e1.mono p2 t2, ?_⟩
          refine (noX_bind (rel1 := RelQ D) q2 fun sq S2 φ3 H3 J1 p3 t3 g3 rj q3 => ?_).1
          have hb3 := noX_bind (rel1 := fun _ _ (_ : Unit) (_ : Unit) => True) (Q1 := fun _ H' => Wi (i + 1) (m - 1) H') (Ex1 := fun _ _ _ => False) q3 fun _ S4 φ4 H4 _ p4 t4 g4 _ q4 => ⟨φ4, S4, ((p.trans p2).trans p3).trans p4, (((tm.trans t1').trans t2).trans t3).trans t4, g4, pre_at p4 (pre_at p3 (pre_at p2 hl)), by omega, q4⟩
          exact loopC_run (X := X) (e := e) (items := sq.items) (w := sq.watch) (l := l) rj (e1.mono (p2.trans p3) (t2.trans t3)) ht1 hK (List.prefix_refl _) (Tm.refl _ _) g3 (pre_at p3 (pre_at p2 hl)) (noX_sat hb3.1 hb3.2)
    · exact q.elim
  · rw [List.drop_eq_nil_of_le (by omega)] at q
    unfold loopG at q
    split at q
    · rename_i ow
      obtain ⟨hs, _⟩ := hq φ S H p tm g ow
      exact .inl ⟨hs i (by show items.length ≤ i; omega), q φ H () (List.prefix_refl _) (Tm.refl _ _) g trivial⟩
    · exact q.elim
theorem comp2_run (hK : X.K = D.K) {own : List (PySem.Str × Nat)} {own1 : List Nat} {t t1 : Tg} {it it1 : It} {c c1 : Eo} {e : E} (ht : ∀ i ∈ tgs t, i ∈ own.map (·.2)) (ht1 : ∀ i ∈ tgs t1, i ∈ own1) {σ : L2.St} {H : Hp} {Q : VK} (q : tI D P cf W (.comp2 (own.map (·.2)) t it c own1 t1 it1 c1 e) σ H Q) :
    tLc2 (tIq D P cf W it) (gOf X.K t) (tIc D P cf WF c) (tIq D P cf WF it1) (gOf X.K t1) (tIc D P cf WF c1) (tI D P cf WF e) (own.map (·.2)) own1 σ H Q := by
  obtain ⟨φ, env, S, g, en, q⟩ := q
  unfold ev at q
  refine ⟨φ, env, S, g, en, q.bind fun sq S1 φ1 H1 J _ p1 t1' g1 r1 q1 => fun Dl hD => ?_⟩
  have e1 : (φ1 ++ [Dl])[S1.length]? = some Dl := by
    rw [← g1.len, List.getElem?_append_right (Nat.le_refl _), Nat.sub_self]; rfl
  have g2 := g1.new (c := .lst []) (o := .lst []) hD ⟨[], upd_same, .nil⟩ rfl
  have t2 : Tm D H1 (upd H1 Dl (.lst [])) := Tm.new hD
  have q2 := q1.mono (List.prefix_append φ1 [Dl]) t2
  refine loopG_run (e := e) (X := X) (items := sq.items) (w := sq.watch) (l := S1.length) r1 (en.mono p1 t1') ht ht1 hK (List.prefix_append _ _) t2 g2 e1 ?_
  refine (q2.bind (rel := fun _ _ (_ : Unit) (_ : Unit) => True) fun u S3 φ3 H3 _ _ p3 t3 g3 _ q3 => q3.here g3 (.ref (pre_at p3 e1))) |> fun z => ?_
  cases hL : loopG t (own.map (·.2)) (fun env1 S2 => (evc P cf c env1 S2).bind fun k S3 => if k then (evi P cf it1 env1 S3).bind fun q1 S4 => loopC t1 own1 (evc P cf c1) (ev P cf e) S1.length q1.watch env1 q1.items S4 else .val () S3) sq.watch env sq.items (S1 ++ [.lst []]) with
  | val u S3 => rw [hL] at z; exact z
  | exc c1 d1 S3 => rw [hL] at z; exact z
  | stuck => rw [hL] at z; exact z
end
end PyI
set_option Elab.async false
set_option linter.all false
set_option autoImplicit false
set_option maxRecDepth 100000
set_option maxHeartbeats 2000000
/-! Statements. -/
namespace PyI
open PySem L2
/-- a statement's end, brought to the abstract heap -/
def SatO (D : Wd) (o : Out) (φ : List Addr) (H : Hp) (E : Ends) (Ex : WX) : Prop := match o with
  | .nx env S => ∀ φ1 H1 σ1, φ <+: φ1 → Tm D H H1 → Sim D φ1 S H1 → RelE D φ1 H1 env σ1 → E.nx σ1 H1
  | .rt u S => ∀ φ1 H1 v, φ <+: φ1 → Tm D H H1 → Sim D φ1 S H1 → RelU D φ1 H1 u v → E.rt v H1
  | .bk env S => ∀ φ1 H1 σ1, φ <+: φ1 → Tm D H H1 → Sim D φ1 S H1 → RelE D φ1 H1 env σ1 → E.bk σ1 H1
  | .ct env S => ∀ φ1 H1 σ1, φ <+: φ1 → Tm D H H1 → Sim D φ1 S H1 → RelE D φ1 H1 env σ1 → E.ct σ1 H1
  | .exc c d env S => ∀ φ1 H1 σ1 dv, φ <+: φ1 → Tm D H H1 → Sim D φ1 S H1 → RelE D φ1 H1 env σ1 → RelD φ1 d dv → Ex (.ref (D.cA c)) dv σ1 H1
  | .stuck => False
section
variable {D : Wd} {φ φ1 : List Addr} {H H1 : Hp}
theorem SatO.mono {o : Out} {E : Ends} {Ex : WX} (h : SatO D o φ H E Ex) (hp : φ <+: φ1) (ht : Tm D H H1) : SatO D o φ1 H1 E Ex := by
  cases o with
  | nx env S => exact fun φ2 H2 v a b => h φ2 H2 v (hp.trans a) (ht.trans b)
  | rt env S => exact fun φ2 H2 v a b => h φ2 H2 v (hp.trans a) (ht.trans b)
  | bk env S => exact fun φ2 H2 v a b => h φ2 H2 v (hp.trans a) (ht.trans b)
  | ct env S => exact fun φ2 H2 v a b => h φ2 H2 v (hp.trans a) (ht.trans b)
  | exc c d env S => exact fun φ2 H2 v dv a b => h φ2 H2 v dv (hp.trans a) (ht.trans b)
  | stuck => exact h
/-- an expression within a statement -/
theorem SatO.bind {α γ : Type} {r : R α} {f : α → Store → Out} {env : Env} {σ : L2.St} {rel : List Addr → Hp → α → γ → Prop} {E : Ends} {Ex : WX} {Q1 : γ → Hp → Prop} (en : RelE D φ H env σ) (h : SatO D (r.out env f) φ H E Ex)
    (k : ∀ (a : α) (S1 : Store) (φ1 : List Addr) (H1 : Hp) (v : γ), r = .val a S1 → φ <+: φ1 → Tm D H H1 → Sim D φ1 S1 H1 → rel φ1 H1 a v → SatO D (f a S1) φ1 H1 E Ex → Q1 v H1) : SatR D r rel φ H Q1 (fun c d H1 => Ex c d σ H1) := by
  cases r with
  | val u S => exact fun φ2 H2 v a b g e => k u S φ2 H2 v rfl a b g e (SatO.mono (o := f u S) h a b)
  | exc c d S => exact fun φ2 H2 dv a b g e => h φ2 H2 σ dv a b g (en.mono a b) e
  | stuck => exact h
end
def tS (D : Wd) (P : Pg) (cf : Nat → List U → Store → R U) (n : Nat) (W : WX) (s : St) : TS := fun E σ H => ∃ φ env S, Sim D φ S H ∧ RelE D φ H env σ ∧ SatO D (ex P cf n s env S) φ H E W
def tSs (D : Wd) (P : Pg) (cf : Nat → List U → Store → R U) (n : Nat) (W : WX) (s : Sts) : TS := fun E σ H => ∃ φ env S, Sim D φ S H ∧ RelE D φ H env σ ∧ SatO D (exs P cf n s env S) φ H E W
theorem PS.imp {X : Cx} {e : Stmt} {t t' : TS} (h : PS X e t) (k : ∀ D σ H, t' D σ H → t D σ H) : PS X e t' := ⟨fun pins s σ H Q I q => h.run pins s σ H Q I (k _ _ _ q)⟩
theorem PSs.imp {X : Cx} {e : List Stmt} {t t' : TS} (h : PSs X e t) (k : ∀ D σ H, t' D σ H → t D σ H) : PSs X e t' := ⟨fun pins s σ H Q I q => h.run pins s σ H Q I (k _ _ _ q)⟩
section
variable {D : Wd} {G : Gc} {P : Pg} {cf : Nat → List U → Store → R U} {j n : Nat} {C : Cfg} {W : WX} {X : Cx}
theorem iss_nil : PSs X [] (tSs D P cf n W .nil) := PSs.imp pss_nil fun E σ H ⟨φ, env, S, g, e, q⟩ => by
  unfold exs at q
  exact q φ H σ (List.prefix_refl _) (Tm.refl _ _) g e
theorem iss_cons {s : St} {r : Sts} {st : Stmt} {sts : List Stmt} (h1 : PS X st (tS D P cf n W s)) (h2 : PSs X sts (tSs D P cf n W r)) : PSs X (st :: sts) (tSs D P cf n W (.cons s r)) := by
  refine PSs.imp (pss_cons h1 h2) fun E σ H ⟨φ, env, S, g, e, q⟩ => ?_
  unfold exs at q
  refine ⟨φ, env, S, g, e, ?_⟩
  cases h : ex P cf n s env S with
  | nx env1 S1 =>
    rw [h] at q
    exact fun φ1 H1 σ1 p t g1 e1 => ⟨φ1, env1, S1, g1, e1, q.mono p t⟩
  | rt u S1 => rw [h] at q; exact q
  | bk env1 S1 => rw [h] at q; exact q
  | ct env1 S1 => rw [h] at q; exact q
  | exc c d env1 S1 => rw [h] at q; exact q
  | stuck => rw [h] at q; exact q
theorem is_pass {pos : Pos} : PS X (.Pass pos) (tS D P cf n W .pass) := PS.imp ps_pass fun E σ H ⟨φ, env, S, g, e, q⟩ => by
  unfold ex at q
  exact q φ H σ (List.prefix_refl _) (Tm.refl _ _) g e
theorem is_brk {pos : Pos} : PS X (.Break pos) (tS D P cf n W .brk) := PS.imp ps_break fun E σ H ⟨φ, env, S, g, e, q⟩ => by
  unfold ex at q
  exact q φ H σ (List.prefix_refl _) (Tm.refl _ _) g e
theorem is_cnt {pos : Pos} : PS X (.Continue pos) (tS D P cf n W .cnt) := PS.imp ps_continue fun E σ H ⟨φ, env, S, g, e, q⟩ => by
  unfold ex at q
  exact q φ H σ (List.prefix_refl _) (Tm.refl _ _) g e
def isComp : Expr → Bool
  | .ListComp _ _ _ _ => true
  | .SetComp _ _ _ _ => true
  | .DictComp _ _ _ _ _ => true
  | _ => false
theorem no_swap {x : Expr} {t : Option Expr} {l : Nat} {env : PySem.Env} (h : isComp x = false) : swapsWith x t l env = pure false := by
  cases x <;> first | rfl | cases h
theorem is_exp {a : E} {x : Expr} {pos : Pos} (ha : PE X x (tI D P cf W a)) (h : isComp x = false) : PS X (.Expr x pos) (tS D P cf n W (.exp a)) := by
  refine PS.imp (ps_expr ha (no_swap h)) fun E σ H ⟨φ, env, S, g, e, q⟩ => ?_
  unfold ex at q
  exact ⟨φ, env, S, g, e, SatO.bind e q fun u S1 φ1 H1 v _ p1 t1 g1 r1 q1 => q1 φ1 H1 σ (List.prefix_refl _) (Tm.refl _ _) g1 (e.mono p1 t1)⟩
theorem is_ret {a : E} {x : Expr} {pos : Pos} (ha : PE X x (tI D P cf W a)) : PS X (.Return (some x) pos) (tS D P cf n W (.ret a)) := by
  refine PS.imp (ps_ret ha) fun E σ H ⟨φ, env, S, g, e, q⟩ => ?_
  unfold ex at q
  exact ⟨φ, env, S, g, e, SatO.bind e q fun u S1 φ1 H1 v _ p1 t1 g1 r1 q1 => q1 φ1 H1 v (List.prefix_refl _) (Tm.refl _ _) g1 r1⟩
theorem is_retN {pos : Pos} : PS X (.Return none pos) (tS D P cf n W .retN) := PS.imp ps_retN fun E σ H ⟨φ, env, S, g, e, q⟩ => by
  unfold ex at q
  exact q φ H .non (List.prefix_refl _) (Tm.refl _ _) g .non
theorem is_if {c : E} {a b : Sts} {x : Expr} {as bs : List Stmt} {pos : Pos} (hc : PT X x (tIt D P cf W c)) (ha : PSs X as (tSs D P cf n W a)) (hb : PSs X bs (tSs D P cf n W b)) : PS X (.If x as bs pos) (tS D P cf n W (.ifS c a b)) := by
  refine PS.imp (ps_if hc ha hb) fun E σ H ⟨φ, env, S, g, e, q⟩ => ?_
  unfold ex at q
  refine ⟨φ, env, S, g, e, SatO.bind e q fun k S1 φ1 H1 k' _ p1 t1 g1 r1 q1 => ?_⟩
  subst r1
  cases k with
  | true => rw [if_pos rfl] at q1 ⊢; exact ⟨φ1, env, S1, g1, e.mono p1 t1, q1⟩
  | false => rw [if_neg Bool.false_ne_true] at q1 ⊢; exact ⟨φ1, env, S1, g1, e.mono p1 t1, q1⟩
/-- name = e, a, b = e -/
theorem is_asg (hK : X.K = D.K) {t : Tg} {a : E} {tg x : Expr} {pos : Pos} (ha : PE X x (tI D P cf W a)) (hg : PG X tg (gOf X.K t)) (hx : isComp x = false) (hw : swappedStores [tg] x X.env = pure none) (h1 : (assignEach [tg] X.env).map (·.2) = [assign tg X.env]) : PS X (.Assign [tg] x pos) (tS D P cf n W (.asg t a)) := by
  refine PS.imp (ps_asg ha hg (no_swap hx) hw h1) fun E σ H ⟨φ, env, S, g, e, q⟩ => ?_
  unfold ex at q
  refine ⟨φ, env, S, g, e, SatO.bind e q fun u S1 φ1 H1 v _ p1 t1 g1 r1 q1 => ?_⟩
  cases hb : bindT t u env with
  | none => rw [hb] at q1; exact q1.elim
  | some env1 =>
    rw [hb] at q1
    exact g_run hK r1 (e.mono p1 t1) hb fun σ1 e1 _ => q1 φ1 H1 σ1 (List.prefix_refl _) (Tm.refl _ _) g1 e1
theorem is_set {i : Nat} {a : E} {y : PySem.Str} {x : Expr} {py pos : Pos} (ok : CxOk D G P cf j C W X) (ha : PE X x (tI D P cf W a)) (hl : locB C i y = true) (hx : isComp x = false) : PS X (.Assign [.Name y py] x pos) (tS D P cf n W (.asg (.nm i) a)) := by
  obtain ⟨h1, h2, h3⟩ := loc_of ok hl
  refine PS.imp (ps_set (by rw [ok.N]; exact ok.nd) h1 h2 ha (no_swap hx) h3) fun E σ H ⟨φ, env, S, g, e, q⟩ => ?_
  unfold ex at q
  refine ⟨φ, env, S, g, e, SatO.bind e q fun u S1 φ1 H1 v _ p1 t1 g1 r1 q1 => ?_⟩
  exact q1 φ1 H1 _ (List.prefix_refl _) (Tm.refl _ _) g1 ((e.mono p1 t1).set r1 i)
/-- a, b = x, y -/
theorem is_par {i k : Nat} {a b : E} {x1 x2 : Expr} {y1 y2 : PySem.Str} {px py pt pos pt2 : Pos} {kt k2 : Nat} (ok : CxOk D G P cf j C W X) (hc : C.calm = true) (hr : PA X [x1, x2] (tIs D P cf W (.cons a (.cons b .nil)))) (hl1 : locB C i y1 = true) (hl2 : locB C k y2 = true) (hik : i ≠ k)
    (hrule : ∀ (t : TA), PA X [x1, x2] t → PS X (.Assign [.Tuple [.Name y1 px, .Name y2 py] kt pt] (.Tuple [x1, x2] k2 pt2) pos) (tPar i k t)) : PS X (.Assign [.Tuple [.Name y1 px, .Name y2 py] kt pt] (.Tuple [x1, x2] k2 pt2) pos) (tS D P cf n W (.asg (.tp [i, k]) (.tup (.cons a (.cons b .nil))))) := by
  refine PS.imp (hrule _ hr) fun E σ H ⟨φ, env, S, g, e, q⟩ => ?_
  unfold ex ev at q
  refine ⟨φ, env, S, g, e, ?_⟩
  have q2 : SatO D ((evs P cf (.cons a (.cons b .nil)) env S).out env fun us S => match us with
    | [u, w] => .nx ((env.set i (some u)).set k (some w)) S
    | _ => .stuck) φ H E W := by
    cases h : evs P cf (.cons a (.cons b .nil)) env S with
    | val us S1 =>
      rw [h] at q
      have q : SatO D ((if us.length ≤ LINE then R.val (U.tup us) S1 else .stuck).out env fun x S => match bindT (.tp [i, k]) x env with
        | some env1 => .nx env1 S
        | none => .stuck) φ H E W := q
      by_cases hz : us.length ≤ LINE
      · rw [if_pos hz] at q
        cases us with
        | nil => exact q.elim
        | cons u us => cases us with
          | nil => exact q.elim
          | cons w us => cases us with
            | nil => exact q
            | cons z us =>
              have hb : bindT (.tp [i, k]) (.tup (u :: w :: z :: us)) env = none := by simp [bindT]
              have q : SatO D (match bindT (.tp [i, k]) (.tup (u :: w :: z :: us)) env with
                | some env1 => .nx env1 S1
                | none => .stuck) φ H E W := q
              rw [hb] at q
              exact q.elim
      · rw [if_neg hz] at q; exact q.elim
    | exc c d S1 => rw [h] at q; exact q
    | stuck => rw [h] at q; exact q
  refine SatO.bind e q2 fun us S1 φ1 H1 vs _ p1 t1 g1 r1 q1 => ?_
  cases r1 with
  | nil => exact q1.elim
  | cons a1 r1 => cases r1 with
    | nil => exact q1.elim
    | cons a2 r1 => cases r1 with
      | nil => exact ⟨_, _, rfl, q1 φ1 H1 _ (List.prefix_refl _) (Tm.refl _ _) g1 (((e.mono p1 t1).set a1 i).set a2 k)⟩
      | cons a3 r1 => exact q1.elim
theorem is_augA {i : Nat} {a : E} {y : PySem.Str} {x : Expr} {py pos : Pos} (ok : CxOk D G P cf j C W X) (ha : PE X x (tI D P cf W a)) (hl : locB C i y = true) : PS X (.AugAssign (.Name y py) .Add x pos) (tS D P cf n W (.aug i .add a)) := by
  obtain ⟨h1, h2, h3⟩ := loc_of ok hl
  refine PS.imp (ps_aug (by rw [ok.N]; exact ok.nd) h1 h2 ha ip_add h3) fun E σ H ⟨φ, env, S, g, e, q⟩ => ?_
  unfold ex at q
  split at q
  · rename_i u hu
    obtain ⟨v, hv, rv⟩ := e.at_ i u hu
    refine ⟨v, hv, φ, env, S, g, e, SatO.bind e q fun w S1 φ1 H1 z _ p1 t1 g1 r1 q1 => ?_⟩
    cases rv with
    | int m => cases r1 with
      | int m2 => exact ⟨m, m2, rfl, rfl, q1 φ1 H1 _ (List.prefix_refl _) (Tm.refl _ _) g1 ((e.mono p1 t1).set (.int _) i)⟩
      | _ => exact q1.elim
    | _ => cases r1 <;> exact q1.elim
  · exact q.elim
theorem is_augS {i : Nat} {a : E} {y : PySem.Str} {x : Expr} {py pos : Pos} (ok : CxOk D G P cf j C W X) (ha : PE X x (tI D P cf W a)) (hl : locB C i y = true) : PS X (.AugAssign (.Name y py) .Sub x pos) (tS D P cf n W (.aug i .sub a)) := by
  obtain ⟨h1, h2, h3⟩ := loc_of ok hl
  refine PS.imp (ps_aug (by rw [ok.N]; exact ok.nd) h1 h2 ha ip_sub h3) fun E σ H ⟨φ, env, S, g, e, q⟩ => ?_
  unfold ex at q
  split at q
  · rename_i u hu
    obtain ⟨v, hv, rv⟩ := e.at_ i u hu
    refine ⟨v, hv, φ, env, S, g, e, SatO.bind e q fun w S1 φ1 H1 z _ p1 t1 g1 r1 q1 => ?_⟩
    cases rv with
    | int m => cases r1 with
      | int m2 => exact ⟨m, m2, rfl, rfl, q1 φ1 H1 _ (List.prefix_refl _) (Tm.refl _ _) g1 ((e.mono p1 t1).set (.int _) i)⟩
      | _ => exact q1.elim
    | _ => cases r1 <;> exact q1.elim
  · exact q.elim
theorem is_while {c : E} {b : Sts} {x : Expr} {bs : List Stmt} {pos : Pos} (ok : CxOk D G P cf j C W X) (hc : PT X x (tIt D P cf W c)) (hb : PSs X bs (tSs D P cf n W b)) : PS X (.While x bs [] pos) (tS D P cf n W (.whl c b)) := by
  refine PS.imp (ps_while ok.po hc hb) fun E σ H ⟨φ, env, S, g, e, q⟩ => ?_
  unfold ex at q
  refine ⟨fun m σ H => ∃ φ env S, Sim D φ S H ∧ RelE D φ H env σ ∧ SatO D (loopW (evt P cf c) (exs P cf n b) m env S) φ H E W, ⟨n, φ, env, S, g, e, q⟩, fun m σ H ⟨φ, env, S, g, e, q⟩ => ?_⟩
  cases m with
  | zero => exact q.elim
  | succ m =>
    unfold loopW at q
    refine ⟨φ, env, S, g, e, SatO.bind e q fun k S1 φ1 H1 k' _ p1 t1 g1 r1 q1 => ?_⟩
    subst r1
    cases k with
    | false =>
      rw [if_neg Bool.false_ne_true] at q1 ⊢
      exact q1 φ1 H1 σ (List.prefix_refl _) (Tm.refl _ _) g1 (e.mono p1 t1)
    | true =>
      rw [if_pos rfl] at q1 ⊢
      refine ⟨_, fun σ' H' h => ⟨m, Nat.lt_succ_self m, h⟩, φ1, env, S1, g1, e.mono p1 t1, ?_⟩
      cases h : exs P cf n b env S1 with
      | nx env1 S2 => rw [h] at q1; exact fun φ2 H2 σ2 p2 t2 g2 e2 => ⟨φ2, env1, S2, g2, e2, q1.mono p2 t2⟩
      | ct env1 S2 => rw [h] at q1; exact fun φ2 H2 σ2 p2 t2 g2 e2 => ⟨φ2, env1, S2, g2, e2, q1.mono p2 t2⟩
      | bk env1 S2 => rw [h] at q1; exact q1
      | rt u S2 => rw [h] at q1; exact q1
      | exc c d env1 S2 => rw [h] at q1; exact q1
      | stuck => rw [h] at q1; exact q1
theorem is_for {t : Tg} {it : It} {b : Sts} {tg iter : Expr} {bs : List Stmt} {pos : Pos} (ok : CxOk D G P cf j C W X) (hcm : C.calm = true) (hi : PI X tg iter (tIq D P cf W it)) (hg : PG X tg (gOf X.K t)) (hb : PSs X bs (tSs D P cf n W b)) (hs : ∀ x, foldedSetIterable iter X.env x = pure x) : PS X (.For tg iter bs [] pos) (tS D P cf n W (.for_ t it b)) := by
  refine PS.imp (ps_for ok.po (ok.calm hcm) hi hg hb hs) fun E σ H ⟨φ, env, S, g, e, q⟩ => ?_
  unfold ex at q
  refine ⟨φ, env, S, g, e, SatO.bind e q fun sq S1 φ0 H0 J _ p0 t0 g0 r0 q0 => ?_⟩
  refine ⟨fun i m σ H => ∃ φ env S, φ0 <+: φ ∧ Tm D H0 H ∧ Sim D φ S H ∧ RelE D φ H env σ ∧ i + m = sq.items.length ∧ SatO D (loopF t (exs P cf n b) sq.watch (sq.items.drop i) env S) φ H E W,
    ⟨sq.items.length, φ0, env, S1, List.prefix_refl _, Tm.refl _ _, g0, e.mono p0 t0, by omega, q0⟩, fun i m σ H ⟨φ, env, S, p, tm, g, e, him, q⟩ => ?_⟩
  by_cases hi : i < sq.items.length
  · have hd : sq.items.drop i = sq.items[i] :: sq.items.drop (i + 1) := List.drop_eq_getElem_cons hi
    rw [hd] at q
    unfold loopF at q
    split at q
    · rename_i ow
      obtain ⟨_, hq2⟩ := r0 φ S H p tm g ow
      obtain ⟨go, yl⟩ := hq2 i sq.items[i] (List.getElem?_eq_getElem hi)
      refine .inr ⟨go, _, fun σ' H' hN => ⟨m - 1, by omega, hN⟩, fun x H' hy => ?_⟩
      obtain ⟨t1, g1, r1⟩ := yl x H' hy
      cases hbt : bindT t sq.items[i] env with
      | none => rw [hbt] at q; exact q.elim
      | some env1 =>
        rw [hbt] at q
        refine g_run ok.K r1 (e.mono (List.prefix_refl _) t1) hbt fun σ1 e1 _ => ?_
        refine ⟨φ, env1, S, g1, e1, ?_⟩
        have q' := q.mono (List.prefix_refl φ) t1
        dsimp only at q'
        cases h : exs P cf n b env1 S with
        | nx env2 S2 => rw [h] at q'; exact fun φ2 H2 σ2 p2 t2 g2 e2 => ⟨φ2, env2, S2, p.trans p2, (tm.trans t1).trans t2, g2, e2, by omega, SatO.mono q' p2 t2⟩
        | ct env2 S2 => rw [h] at q'; exact fun φ2 H2 σ2 p2 t2 g2 e2 => ⟨φ2, env2, S2, p.trans p2, (tm.trans t1).trans t2, g2, e2, by omega, SatO.mono q' p2 t2⟩
        | bk env2 S2 => rw [h] at q'; exact q'
        | rt u S2 => rw [h] at q'; exact q'
        | exc c d env2 S2 => rw [h] at q'; exact q'
        | stuck => rw [h] at q'; exact q'
    · exact q.elim
  · rw [List.drop_eq_nil_of_le (by omega)] at q
    unfold loopF at q
    split at q
    · rename_i ow
      obtain ⟨hs, _⟩ := r0 φ S H p tm g ow
      exact .inl ⟨hs i (by omega), q φ H σ (List.prefix_refl _) (Tm.refl _ _) g e⟩
    · exact q.elim
/-! ### raise, try -/
theorem is_raise (ok : CxOk D G P cf j C W X) (hc : C.calm = true) {c : Nat} {as : List Nat} {x m : PySem.Str} {k : Nat} {p p2 pos pos' : Pos} (hx : G.cnm[c]? = some x) (ha : G.exs.lookup c = some as) (h2 : gloB C x = true) : PS X (.Raise (some (.Call (.Name x p) [.Constant (.str m) k p2] [] pos)) none pos') (tS D P cf n W (.raise c .nil)) := by
  obtain ⟨hg, hd⟩ := glo_of ok h2
  obtain ⟨e1, e2, e3, e4⟩ := ok.exc c x as hx ha
  refine PS.imp (ps_raise (ok.calm hc) ok.tk (pmk_own PySem.F.excBase_ValueError e2 e1 e3 e4 hg hd)) fun E σ H ⟨φ, env, S, g, e, q⟩ => ?_
  unfold ex at q
  rw [ok.noi c as ha] at q
  exact q φ H σ none (List.prefix_refl _) (Tm.refl _ _) g e trivial
def Cfg.hot (C : Cfg) : Cfg := { C with calm := false }
theorem CxOk.suite (ok : CxOk D G P cf j C W X) (a : Addr) (pn : List (Addr × Obj)) : CxOk D G P cf j C.hot WF (X.suite a pn) where
  K := ok.K
  N := ok.N
  nd := ok.nd
  sc := ok.sc
  calm := fun h => by cases h
  room := fun h => by cases h
  tk := takes0
  po := PassesOwn.never
  fnS := ok.fnS
  fr := ok.fr
  gl := ok.gl
  top := ok.top
  exs := ok.exs
  noi := ok.noi
  exc := ok.exc
  exm := ok.exm
  dnm := ok.dnm
  mne := ok.mne
  ine := ok.ine
  nmd := ok.nmd
  cls := ok.cls
  flf := ok.flf
  mth := ok.mth
  prp := ok.prp
  ini := ok.ini
  fns := ok.fns
theorem CxOk.tr (ok : CxOk D G P cf j C W X) {W' : WX} {pn : List (Addr × Obj)} {xe : Value → Shared → Prop} (tk : Takes (X.tr pn xe) W') (po : PassesOwn (model X.prog X.w) X.A X.env xe) : CxOk D G P cf j C W' (X.tr pn xe) where
  K := ok.K
  N := ok.N
  nd := ok.nd
  sc := ok.sc
  calm := ok.calm
  room := ok.room
  tk := tk
  po := po
  fnS := ok.fnS
  fr := ok.fr
  gl := ok.gl
  top := ok.top
  exs := ok.exs
  noi := ok.noi
  exc := ok.exc
  exm := ok.exm
  dnm := ok.dnm
  mne := ok.mne
  ine := ok.ine
  nmd := ok.nmd
  cls := ok.cls
  flf := ok.flf
  mth := ok.mth
  prp := ok.prp
  ini := ok.ini
  fns := ok.fns
/-- the except clauses' list -/
def hdL (D : Wd) (P : Pg) (cf : Nat → List U → Store → R U) (n : Nat) : Hs → List (Value × (Addr → Value → Option Addr → TS))
  | .nil => []
  | .cons c h r => (.ref (D.cA c), fun _ _ _ => tSs D P cf n WF h) :: hdL D P cf n r
def hsIn (G : Gc) : Hs → Bool
  | .nil => true
  | .cons c _ r => (G.exs.lookup c).isSome && hsIn G r
theorem noXo_sat {o : Out} {φ : List Addr} {H : Hp} {E : Ends} {Ex Ex1 : WX} (q : SatO D (noXo o) φ H E Ex) : SatO D o φ H E Ex1 := by
  cases o with
  | exc c d env S => exact q.elim
  | _ => exact q
theorem exh_many (ok : CxOk D G P cf j C W X) {E : Ends} {x : Nat} {as : List Nat} {d : Option Nat} {env : Env} {S : Store} {φ : List Addr} {H : Hp} {σ : L2.St} {dv : Option Addr} (hx : G.exs.lookup x = some as) (g : Sim D φ S H) (e : RelE D φ H env σ) (rd : RelD φ d dv) :
    ∀ {hs : Hs}, hsIn G hs = true → SatO D (exh P cf n hs as x d env S) φ H E W → wMany X.K W E (hdL D P cf n hs) (.ref (D.cA x)) dv σ H
  | .nil, _, q => by
    unfold exh at q
    exact q φ H σ dv (List.prefix_refl _) (Tm.refl _ _) g e rd
  | .cons c h r, hi, q => by
    unfold hsIn at hi
    rw [Bool.and_eq_true] at hi
    obtain ⟨as', ha⟩ := Option.isSome_iff_exists.mp hi.1
    unfold exh at q
    refine ⟨decide (c ∈ as), ok.exm x c as as' hx ha, fun hb a hn => ?_, fun hb => ?_⟩
    · rw [if_pos (of_decide_eq_true hb)] at q
      exact ⟨φ, env, S, g, e, noXo_sat q⟩
    · rw [if_neg (of_decide_eq_false hb)] at q
      exact exh_many ok hx g e rd hi.2 q
theorem is_try (ok : CxOk D G P cf j C W X) (ht : C.top = true) {b : Sts} {hs : Hs} {body : List Stmt} {h₀ : ExceptHandler} {hds : List ExceptHandler} {pos : Pos} (hi : hsIn G hs = true)
    (hb : ∀ (W' : WX) (pn : List (Addr × Obj)) (xe : Value → Shared → Prop), CxOk D G P cf j C W' (X.tr pn xe) → PSs (X.tr pn xe) body (tSs D P cf n W' b)) (hh : HdsOk X (h₀ :: hds) (hdL D P cf n hs)) : PS X (.Try body (h₀ :: hds) [] [] pos) (tS D P cf n W (.tryM b hs)) := by
  obtain ⟨t1, t2⟩ := ok.top ht
  refine PS.imp (ps_try_many t1 t2 ok.tk (fun W' pn xe tk po => hb W' pn xe (ok.tr tk po)) hh) fun E σ H ⟨φ, env, S, g, e, q⟩ => ?_
  unfold ex at q
  refine ⟨φ, env, S, g, e, ?_⟩
  cases hr : exs P cf n b env S with
  | exc x d env1 S1 =>
    rw [hr] at q
    dsimp only at q
    cases hl : P.excs.lookup x with
    | none => rw [hl] at q; exact q.elim
    | some as =>
      rw [hl] at q
      intro φ1 H1 σ1 dv p1 t1 g1 e1 rd
      rw [ok.exs] at hl
      exact exh_many ok hl g1 e1 rd hi (SatO.mono q p1 t1)
  | nx env1 S1 => rw [hr] at q; exact q
  | rt u S1 => rw [hr] at q; exact q
  | bk env1 S1 => rw [hr] at q; exact q
  | ct env1 S1 => rw [hr] at q; exact q
  | stuck => rw [hr] at q; exact q
end
end PyI
set_option Elab.async false
set_option linter.all false
set_option autoImplicit false
set_option maxRecDepth 100000
set_option maxHeartbeats 2000000
/-! A term of the small machine and a piece of the text: when they are the same, and what follows: expressions. -/
namespace PyI
open PySem L2
def opB : Bop → Operator → Bool
  | .add, .Add => true
  | .sub, .Sub => true
  | .mul, .Mult => true
  | .fdiv, .FloorDiv => true
  | .mod, .Mod => true
  | .band, .BitAnd => true
  | _, _ => false
def cmB : Cop → CmpOp → Bool
  | .eq, .Eq => true
  | .ne, .NotEq => true
  | .lt, .Lt => true
  | .le, .LtE => true
  | .gt, .Gt => true
  | .ge, .GtE => true
  | .isN, .Is => true
  | .notN, .IsNot => true
  | .mem, .In => true
  | .nmem, .NotIn => true
  | .is, .Is => true
  | .isnot, .IsNot => true
  | _, _ => false
theorem cm_rule {D : Wd} {X : Cx} (hK : X.K = D.K) (hu : X.A.units + 65 < cLine) {o : Cop} {op : CmpOp} (h : cmB o op = true) : ∃ r : R2, OpR X (compareOp op) r ∧ CmpS D o r := by
  have hu4 : X.A.units + 64 < cLine := by omega
  cases o <;> cases op <;> first | cases h | skip
  · exact ⟨rCEq X.K, op_eq.or (op_eqD hu4), fun g r s q => by rw [hK]; exact cmp_eq g r s q⟩
  · exact ⟨rCNe X.K, op_ne.or (op_neD hu4), fun g r s q => by rw [hK]; exact cmp_ne g r s q⟩
  · exact ⟨_, op_lt, fun g r s q => cmp_int (o := .lt) (p := fun i j => decide (i < j)) (fun u w => by cases u <;> cases w <;> first | exact .inr rfl | exact .inl ⟨_, _, rfl, rfl, rfl⟩) g r s q⟩
  · exact ⟨_, op_le, fun g r s q => cmp_int (o := .le) (p := fun i j => decide (i ≤ j)) (fun u w => by cases u <;> cases w <;> first | exact .inr rfl | exact .inl ⟨_, _, rfl, rfl, rfl⟩) g r s q⟩
  · exact ⟨_, op_gt, fun g r s q => cmp_int (o := .gt) (p := fun i j => decide (j < i)) (fun u w => by cases u <;> cases w <;> first | exact .inr rfl | exact .inl ⟨_, _, rfl, rfl, rfl⟩) g r s q⟩
  · exact ⟨_, op_ge, fun g r s q => cmp_int (o := .ge) (p := fun i j => decide (j ≤ i)) (fun u w => by cases u <;> cases w <;> first | exact .inr rfl | exact .inl ⟨_, _, rfl, rfl, rfl⟩) g r s q⟩
  · exact ⟨_, op_isN, fun g r s q => cmp_isN g r s q⟩
  · exact ⟨_, op_notN, fun g r s q => cmp_notN g r s q⟩
  · exact ⟨rMem X.K, op_in_sign.or (op_in_seq.or ((op_inD hu).or (op_din (by omega)))), fun g r s q => by rw [hK]; exact cmp_mem g r s q⟩
  · exact ⟨rNmem X.K, op_notIn_sign.or (op_notIn_seq.or ((op_notInD hu).or (op_dnotin (by omega)))), fun g r s q => by rw [hK]; exact cmp_nmem g r s q⟩
  · exact ⟨rIsBo, op_is_bl, fun g r s q => cmp_isB g r s q⟩
  · exact ⟨rNotBo, op_isnot_bl, fun g r s q => cmp_notB g r s q⟩
def setB : Expr → Bool
  | .Set _ _ _ => true
  | _ => false
theorem fold_set {x : Expr} {env : PySem.Env} (h : setB x = false) : ∀ v, foldedSetIterable x env v = pure v := by
  intro v
  cases x <;> first | rfl | cases h
def ownOf (C : Cfg) (own : List Nat) : List (PySem.Str × Nat) := own.map fun i => (C.N.getD i PySem.Str.empty, i)
theorem own_snd (C : Cfg) (own : List Nat) : (ownOf C own).map (·.2) = own := by
  unfold ownOf
  rw [List.map_map]
  exact List.map_id _
def isTup : Expr → Bool
  | .Tuple _ _ _ => true
  | _ => false
def callB : Expr → Bool
  | .Call (.Name _ _) [] [] _ => true
  | _ => false
def bmN : Bm → Option PySem.Str
  | .append => some "append"
  | .extend => some "extend"
  | .pop => some "pop"
  | .popAt => some "pop"
  | .insert => some "insert"
  | .index => some "index"
  | .join => some "join"
  | .get => some "get"
  | .get2 => some "get"
  | .dpop => some "pop"
  | .dpop2 => some "pop"
  | _ => none
/-- a dict's method -/
def bmD : Bm → Bool
  | .get => true
  | .get2 => true
  | .dpop => true
  | .dpop2 => true
  | _ => false
/-- how many arguments; the type -/
def bm1 : Bm → Nat
  | .append => 1
  | .extend => 1
  | .popAt => 1
  | .insert => 2
  | .index => 1
  | .join => 1
  | .get => 1
  | .get2 => 2
  | .dpop => 1
  | .dpop2 => 2
  | _ => 0
def bmT : Bm → String
  | .join => "str"
  | .get => "dict"
  | .get2 => "dict"
  | .dpop => "dict"
  | .dpop2 => "dict"
  | _ => "list"
section
variable (G : Gc)
mutual
def mE (C : Cfg) : E → Expr → Bool
  | .var i, x => match x with
    | .Name x _ => varB C i x
    | _ => false
  | .mov i, x => match x with
    | .Name x _ => varB C i x
    | _ => false
  | .int i, x => match x with
    | .Constant (.int k) _ _ => decide (i = k)
    | _ => false
  | .str i, x => match x with
    | .Constant (.str k) _ _ => decide (i = k)
    | _ => false
  | .bl i, x => match x with
    | .Constant (.bool k) _ _ => decide (i = k)
    | _ => false
  | .non, x => match x with
    | .Constant .none _ _ => true
    | _ => false
  | .glo g, x => match x with
    | .Name x _ => decide (G.gnm[g]? = some x) && gloB C x
    | _ => false
  | .fnv f, x => match x with
    | .Name x _ => decide (G.fnm[f]? = some (some x)) && gloB C x
    | _ => false
  | .bin o a b, x => match x with
    | .BinOp x op y _ => opB o op && (mE C a x && mE C b y)
    | _ => false
  | .neg a, x => match x with
    | .UnaryOp .USub x _ => mE C a x
    | _ => false
  | .cmp o a b, x => match x with
    | .Compare x [op] [y] _ => (C.calm && cmB o op && !behindInMarks op y) && (mE C a x && mE C b y)
    | _ => false
  | .cmp2 o p a b c, x => match x with
    | .Compare x [op, op'] [y, z] _ => (C.calm && cmB o op && cmB p op' && !lastMarks [op, op'] [y, z]) && (mE C a x && mE C b y && mE C c z)
    | _ => false
  | .and a b, x => match x with
    | .BoolOp .And (x :: y :: r) pos => mE C a x && (match r with
      | [] => mE C b y
      | z :: r => mE C b (.BoolOp .And (y :: z :: r) pos))
    | _ => false
  | .or a b, x => match x with
    | .BoolOp .Or (x :: y :: r) pos => mE C a x && (match r with
      | [] => mE C b y
      | z :: r => mE C b (.BoolOp .Or (y :: z :: r) pos))
    | _ => false
  | .not a, x => match x with
    | .UnaryOp .Not x _ => mE C a x
    | _ => false
  | .ife c a b, x => match x with
    | .IfExp z x y _ => mE C c z && (mE C a x && mE C b y)
    | _ => false
  | .tup es, x => match x with
    | .Tuple xs _ _ => mEs C es xs
    | _ => false
  | .lst es, x => match x with
    | .List xs _ => mEs C es xs
    | _ => false
  | .ix a b, x => match x with
    | .Subscript x y _ => (C.calm && !sliceB y) && (mE C a x && mE C b y)
    | _ => false
  | .cut a lo hi, x => match x with
    | .Subscript x (.Slice l h none _) _ => mE C a x && (mEo C lo l && mEo C hi h)
    | _ => false
  | .fld a f, x => match x with
    | .Attribute y n _ => (decide (G.nm[f]? = some n) && !callB y) && mE C a y
    | _ => false
  | .call f es, x => match x with
    | .Call (.Name x _) (e0 :: xs) [] _ => (C.calm && decide (G.fnm[f]? = some (some x)) && gloB C x && (e0 :: xs).all (fun e => !starB e)) && mEs C es (e0 :: xs)
    | _ => false
  | .callv x es, _ => false
  | .meth m o es, x => match x with
    | .Call (.Attribute y n apos) xs [] cpos => (C.calm && decide (m ∈ G.mnm) && decide (G.nm[m]? = some n) && !callB y && (apos.endLine == cpos.line) && G.props.all (fun q => q.1.2 != m) && xs.all (fun e => !starB e) && decide (xs.length < 30)) && (mE C o y && mEs C es xs)
    | .Attribute y n _ => (C.calm && decide (m ∈ G.mnm) && decide (G.nm[m]? = some n) && !callB y && decide (m ∈ G.pnm)) && (mE C o y && match es with
      | .nil => true
      | _ => false)
    | _ => false
  | .mk c es, x => match x with
    | .Call (.Name n _) xs [] _ => (C.calm && decide (c ∈ G.ini) && decide (G.cnm[c]? = some n) && gloB C n && xs.all (fun e => !starB e)) && mEs C es xs
    | _ => false
  | .bi b es, x => match x with
    | .Call (.Name x _) xs [] _ => (match b, es, xs with
      | .isi t, .cons a .nil, [y, .Name n _] => (C.calm && decide (x = "isinstance") && gloB C x && decide (x ∈ G.free) && gloB C n && decide (n ∈ G.free) && decide ((tyN t).map PySem.Str.ofString = some n) && !starB y) && mE C a y
      | b, es, e0 :: xs => (match biV b with
        | some (n, _) => (C.calm && decide (x = n) && gloB C x && decide (x ∈ G.free) && (e0 :: xs).all (fun e => !starB e)) && mEs C es (e0 :: xs)
        | none => false)
      | _, _, _ => false)
    | .Subscript y (.Slice none none (some (.UnaryOp .USub (.Constant (.int 1) _ _) _)) _) _ => (match b, es with
      | .rvl, .cons a .nil => mE C a y
      | _, _ => false)
    | _ => false
  | .bm b o es, x => match x with
    | .Call (.Attribute y m apos) xs [] cpos => ((C.calm || !bmD b) && decide (bmN b = some m) && !callB y && (apos.endLine == cpos.line)) && (mE C o y && (match bm1 b, xs with
      | 1, [z] => !starB z && mEs C es [z]
      | 2, [z, w] => (!starB z && !starB w) && mEs C es [z, w]
      | 0, [] => (match es with
        | .nil => true
        | _ => false)
      | _, _ => false))
    | _ => false
  | .comp own t it c e, x => match x with
    | .ListComp elt [⟨tg, iter, ifs, as⟩] scope _ => (C.calm && decide (as = 0) && !setB iter && blkC C.N C.sc scope (ownOf C own) && mT (C.blkd scope) t tg && (tgs t).all (fun i => own.contains i)) && (mI C it tg iter && mEc (C.blkd scope) c ifs && mE (C.blkd scope) e elt)
    | _ => false
  | .comp2 own t it c own1 t1 it1 c1 e, x => match x with
    | .ListComp elt [⟨tg, iter, ifs, as⟩, ⟨tg1, iter1, ifs1, as1⟩] scope _ => (C.calm && decide (as = 0) && decide (as1 = 0) && !setB iter && !setB iter1 && blkC C.N C.sc scope (ownOf C own) && mT (C.blkd scope) t tg && mT (C.blkd scope) t1 tg1 && (tgs t).all (fun i => own.contains i) && (tgs t1).all (fun i => own1.contains i) && own1.all (fun i => own.contains i)) && (mI C it tg iter && mEc (C.blkd scope) c ifs && (mI (C.blkd scope) it1 tg1 iter1 && mEc (C.blkd scope) c1 ifs1 && mE (C.blkd scope) e elt))
    | _ => false
  | .dict0, x => match x with
    | .Dict [] [] _ => true
    | _ => false
  | .stk, _ => true
  | .esc i q a b c d, x => escB C i q a b c d x
  | .dctL es, x => match x with
    | .Dict keys values _ => (keys.all (·.isSome) && decide (keys.length = values.length) && decide (keys ≠ []) && decide (keys.length ≤ 15)) && mKV C es keys values
    | _ => false
def mKV (C : Cfg) : Es → List (Option Expr) → List Expr → Bool
  | .nil, ks, vs => ks.isEmpty && vs.isEmpty
  | .cons k (.cons v r), some x :: ks, y :: vs => mE C k x && (mE C v y && mKV C r ks vs)
  | _, _, _ => false
def mEs (C : Cfg) : Es → List Expr → Bool
  | .nil, xs => xs.isEmpty
  | .cons e r, xs => match xs with
    | x :: xs => !starB x && (mE C e x && mEs C r xs)
    | [] => false
def mEo (C : Cfg) : Eo → Option Expr → Bool
  | .none, x => x.isNone
  | .some e, x => match x with
    | some x => mE C e x
    | none => false
def mEc (C : Cfg) : Eo → List Expr → Bool
  | .none, xs => xs.isEmpty
  | .some e, xs => match xs with
    | [x] => mE C e x
    | _ => false
def mI (C : Cfg) : It → Expr → Expr → Bool
  | .seq e, _, x => mE C e x
  | .chars e, _, x => mE C e x
  | .rng1 e, _, x => match x with
    | .Call (.Name n _) [x] [] _ => (decide (n = "range") && gloB C "range" && decide (("range" : PySem.Str) ∈ G.free) && !starB x) && mE C e x
    | _ => false
  | .rrng1 e, _, x => match x with
    | .Call (.Name m _) [.Call (.Name n _) [x] [] _] [] _ => (decide (m = "reversed") && gloB C "reversed" && decide (("reversed" : PySem.Str) ∈ G.free) && decide (n = "range") && gloB C "range" && decide (("range" : PySem.Str) ∈ G.free) && !starB x) && mE C e x
    | _ => false
  | .rng2 a b, _, x => match x with
    | .Call (.Name n _) [x, y] [] _ => (decide (n = "range") && gloB C "range" && decide (("range" : PySem.Str) ∈ G.free) && !starB x && !starB y) && (mE C a x && mE C b y)
    | _ => false
  | .rev e, _, x => match x with
    | .Call (.Name n _) [x] [] _ => (decide (n = "reversed") && gloB C "reversed" && decide (("reversed" : PySem.Str) ∈ G.free) && !starB x) && mE C e x
    | _ => false
  | .enum e, tg, x => match x with
    | .Call (.Name n _) [x] [] _ => (isTup tg && decide (n = "enumerate") && gloB C "enumerate" && decide (("enumerate" : PySem.Str) ∈ G.free) && !starB x) && mE C e x
    | _ => false
  | .zip a b, tg, x => match x with
    | .Call (.Name n _) [x, y] [] _ => (isTup tg && decide (n = "zip") && gloB C "zip" && decide (("zip" : PySem.Str) ∈ G.free) && !starB x && !starB y) && (mE C a x && mE C b y)
    | _ => false
end
end
section
variable {D : Wd} {G : Gc} {P : Pg} {cf : Nat → List U → Store → R U} {j : Nat} {C : Cfg} {W : WX} {X : Cx}
theorem b2 {a b : Bool} (h : (a && b) = true) : a = true ∧ b = true := Bool.and_eq_true_iff.mp h
theorem nb {a : Bool} (h : (!a) = true) : a = false := by simpa using h
theorem CxOk.units (ok : CxOk D G P cf j C W X) (hc : C.calm = true) : X.A.units + 65 < cLine := by
  have := (ok.room hc).un; omega
theorem bm_few {b : Bm} {z : Expr} {cpos : Pos} {env : PySem.Env} (h : starB z = false) : ((backTo cpos (starEach [z] env)).all (fun x => !x.1) && (backToKw cpos (keywordEach [] env)).all (fun x => x.1.isSome) && decide (([z] : List Expr).length + ([] : List Keyword).length + (if ([] : List Keyword).isEmpty then 0 else 1) < 30)) = true := by
  rw [star_cons h]; rfl
theorem attr_base {y : Expr} {m : PySem.Str} {env : PySem.Env} (h : callB y = false) : attributeBase y m env (eval y env) = eval y env := by
  cases y with
  | Call f as ks pos => cases f with
    | Name x p => cases as with
      | nil => cases ks with
        | nil => cases h
        | cons k ks => rfl
      | cons a as => rfl
    | _ => rfl
  | _ => rfl
theorem bm_few2 {z w : Expr} {cpos : Pos} {env : PySem.Env} (h : starB z = false) (h2 : starB w = false) : ((backTo cpos (starEach [z, w] env)).all (fun x => !x.1) && (backToKw cpos (keywordEach [] env)).all (fun x => x.1.isSome) && decide (([z, w] : List Expr).length + ([] : List Keyword).length + (if ([] : List Keyword).isEmpty then 0 else 1) < 30)) = true := by
  rw [star_cons h, star_cons h2]; rfl
theorem ty_list {b : Bm} {φ : List Addr} {H : Hp} {S : Store} {u : U} {v : V} (g : Sim D φ S H) (r : RelU D φ H u v) (h : tyU b S u = true) : tyV D.K (bmT b) v H := by
  have fin : ∀ {l : Nat} {a : Addr}, φ[l]? = some a → (match S[l]? with | some (Cell.lst _) => true | _ => false) = true → tyV D.K "list" (.ref a) H := fun {l a} f h => by
    split at h
    · rename_i us e
      obtain ⟨vs, h1, _⟩ := g.cell l _ a e f
      exact .inl ⟨rfl, vs, .of h1⟩
    · cases h
  have find : ∀ {l : Nat} {a : Addr}, φ[l]? = some a → (dctU S (.ref l)).isSome = true → tyV D.K "dict" (.ref a) H := fun {l a} f h => by
    obtain ⟨kvs, e⟩ := Option.isSome_iff_exists.mp h
    obtain ⟨l', a', gs, e1, e2, e3, f', h1, _⟩ := dct_at g (.ref f) e
    cases e2
    exact .inr (.inr (.inl ⟨rfl, .inl ⟨gs, h1⟩⟩))
  cases r with
  | ref f =>
    cases b <;> first | exact fin f h | exact find f h | cases h
  | str x => cases b <;> first | exact (rfl : ("str" : String) = "str") | cases h
  | _ => cases b <;> cases h
theorem bm_rule {b : Bm} {m : PySem.Str} (hu : bmD b = true → X.A.units + 1 < cLine) (hm : bmN b = some m) : ∃ id, PlainAttrs (bmT b) ∧ Slot (bmT b) m id ∧ typeOf (.builtin id) = pure (.type "method_descriptor") ∧ MtR X id (rBm X.K b) := by
  cases b with
  | append => cases hm; exact ⟨_, PySem.F.plainAttrs_list, PySem.F.slot_list_append, PySem.F.type_list_append, mt_append⟩
  | extend => cases hm; exact ⟨_, PySem.F.plainAttrs_list, PySem.F.slot_list_extend, PySem.F.type_list_extend, mt_extend⟩
  | pop => cases hm; exact ⟨_, PySem.F.plainAttrs_list, PySem.F.slot_list_pop, PySem.F.type_list_pop, mt_pop⟩
  | popAt => cases hm; exact ⟨_, PySem.F.plainAttrs_list, PySem.F.slot_list_pop, PySem.F.type_list_pop, mt_popAt⟩
  | insert => cases hm; exact ⟨_, PySem.F.plainAttrs_list, PySem.F.slot_list_insert, PySem.F.type_list_insert, mt_insert⟩
  | index => cases hm; exact ⟨_, PySem.F.plainAttrs_list, PySem.F.slot_list_index, PySem.F.type_list_index, mt_index⟩
  | join => cases hm; exact ⟨_, PySem.F.plainAttrs_str, PySem.F.slot_str_join, PySem.F.type_str_join, mt_join⟩
  | get => cases hm; exact ⟨_, PySem.F.plainAttrs_dict, PySem.F.slot_dict_get, PySem.F.type_dict_get, mt_dget1 (hu rfl)⟩
  | get2 => cases hm; exact ⟨_, PySem.F.plainAttrs_dict, PySem.F.slot_dict_get, PySem.F.type_dict_get, mt_dget2 (hu rfl)⟩
  | dpop => cases hm; exact ⟨_, PySem.F.plainAttrs_dict, PySem.F.slot_dict_pop, PySem.F.type_dict_pop, mt_dpop1⟩
  | dpop2 => cases hm; exact ⟨_, PySem.F.plainAttrs_dict, PySem.F.slot_dict_pop, PySem.F.type_dict_pop, mt_dpop2⟩
  | _ => cases hm
theorem ie_bm1 (hK : X.K = D.K) {b : Bm} (hu : bmD b = true → X.A.units + 1 < cLine) {m : PySem.Str} {o : E} {es : Es} {y z : Expr} {apos cpos : Pos} (hm : bmN b = some m) (hy : callB y = false) (hl : (apos.endLine == cpos.line) = true) (hs : starB z = false) (ho : PE X y (tI D P cf W o)) (hz : PA X [z] (tIs D P cf W es)) :
    PE X (.Call (.Attribute y m apos) [z] [] cpos) (tI D P cf W (.bm b o es)) := by
  obtain ⟨id, h0, h1, h2, h3⟩ := bm_rule (X := X) hu hm
  refine PE.imp (pe_bm h0 h1 h2 h3 ho hz (attr_base hy) (bm_few (b := b) hs) hl (star_cons hs) rfl) fun σ H Q ⟨φ, env, S, g, e, q⟩ => ?_
  unfold ev at q
  refine ⟨φ, env, S, g, e, q.bind fun u S1 φ1 H1 v _ p1 t1 g1 r1 q1 => ?_⟩
  split at q1
  · rename_i ty
    refine ⟨by rw [hK]; exact ty_list g1 r1 ty, φ1, env, S1, g1, e.mono p1 t1, q1.bind fun us S2 φ2 H2 vs _ p2 t2 g2 r2 q2 => ?_⟩
    rw [hK]
    exact app_okU g2 (r1.mono p2 t2) r2 q2
  · exact q1.elim
theorem ie_bm2 (hK : X.K = D.K) {b : Bm} (hu : bmD b = true → X.A.units + 1 < cLine) {m : PySem.Str} {o : E} {es : Es} {y z w : Expr} {apos cpos : Pos} (hm : bmN b = some m) (hy : callB y = false) (hl : (apos.endLine == cpos.line) = true) (hs : starB z = false) (hs2 : starB w = false) (ho : PE X y (tI D P cf W o)) (hz : PA X [z, w] (tIs D P cf W es)) :
    PE X (.Call (.Attribute y m apos) [z, w] [] cpos) (tI D P cf W (.bm b o es)) := by
  obtain ⟨id, h0, h1, h2, h3⟩ := bm_rule (X := X) hu hm
  refine PE.imp (pe_bm h0 h1 h2 h3 ho hz (attr_base hy) (bm_few2 hs hs2) hl (star_cons hs) (star_any (by simp [hs2]))) fun σ H Q ⟨φ, env, S, g, e, q⟩ => ?_
  unfold ev at q
  refine ⟨φ, env, S, g, e, q.bind fun u S1 φ1 H1 v _ p1 t1 g1 r1 q1 => ?_⟩
  split at q1
  · rename_i ty
    refine ⟨by rw [hK]; exact ty_list g1 r1 ty, φ1, env, S1, g1, e.mono p1 t1, q1.bind fun us S2 φ2 H2 vs _ p2 t2 g2 r2 q2 => ?_⟩
    rw [hK]
    exact app_okU g2 (r1.mono p2 t2) r2 q2
  · exact q1.elim
theorem ie_bm0 (hK : X.K = D.K) {b : Bm} (hu : bmD b = true → X.A.units + 1 < cLine) {m : PySem.Str} {o : E} {y : Expr} {apos cpos : Pos} (hm : bmN b = some m) (hy : callB y = false) (hl : (apos.endLine == cpos.line) = true) (ho : PE X y (tI D P cf W o)) :
    PE X (.Call (.Attribute y m apos) [] [] cpos) (tI D P cf W (.bm b o .nil)) := by
  obtain ⟨id, h0, h1, h2, h3⟩ := bm_rule (X := X) hu hm
  refine PE.imp (pe_bm0 h0 h1 h2 h3 ho (attr_base hy) hl) fun σ H Q ⟨φ, env, S, g, e, q⟩ => ?_
  unfold ev at q
  refine ⟨φ, env, S, g, e, q.bind fun u S1 φ1 H1 v _ p1 t1 g1 r1 q1 => ?_⟩
  split at q1
  · rename_i ty
    refine ⟨by rw [hK]; exact ty_list g1 r1 ty, ?_⟩
    unfold evs at q1
    have q2 : SatR D (bmU b u [] S1) (RelU D) φ1 H1 Q (fun c d H1 => W c d σ H1) := q1
    rw [hK]
    exact app_okU g1 r1 .nil q2
  · exact q1.elim
/-- isinstance(x, T) -/
theorem ie_isi (ok : CxOk D G P cf j C W X) {t : Ty} {a : E} {y : Expr} {n x : PySem.Str} {p p2 pos : Pos} (hx : x = "isinstance") (h1 : gloB C x = true) (hf : x ∈ G.free) (h2 : gloB C n = true) (hf2 : n ∈ G.free) (hn : (tyN t).map PySem.Str.ofString = some n) (hs : starB y = false) (ha : PE X y (tI D P cf W a)) :
    PE X (.Call (.Name x p) [y, .Name n p2] [] pos) (tI D P cf W (.bi (.isi t) (.cons a .nil))) := by
  subst hx
  obtain ⟨hg, hd⟩ := glo_of ok h1
  obtain ⟨hg2, hd2⟩ := glo_of ok h2
  have hb : ∃ m, tyN t = some m ∧ n = PySem.Str.ofString m ∧ bootBuiltins n = some (.type m) ∧ n ≠ "__name__" := by
    cases t <;> cases hn <;> exact ⟨_, rfl, rfl, by decide +kernel, by decide⟩
  obtain ⟨m, hm, _, hv, hne⟩ := hb
  refine PE.imp (pe_callB call_isi hg (ok.fr _ hf) (by decide +kernel) (pa_cons ha (pa_cons (pe_bltn (v := .ty m) (u := .type m) hg2 (ok.fr _ hf2) hv rfl hne hd2) pa_nil rfl) (star_cons hs)) (by decide) hd (star_cons hs) rfl) fun σ H Q ⟨φ, env, S, g, e, q⟩ => ?_
  unfold ev evs evs at q
  rw [R.bind_assoc] at q
  refine ⟨φ, env, S, g, e, q.bind fun u S1 φ1 H1 v _ p1 t1 g1 r1 q1 => ?_⟩
  have q1 : SatR D (ofO S1 ((isiU S1 u t).map .bl)) (RelU D) φ1 H1 Q (fun c d H1 => W c d σ H1) := q1
  obtain ⟨z, hz, q1⟩ := q1.ofO
  obtain ⟨k, hk, rfl⟩ := Option.map_eq_some_iff.mp hz
  obtain ⟨n', m', e1, e2, e3⟩ := isi_ok g1 r1 hk
  rw [hm] at e1
  cases e1
  show rIsi X.K [v, .ty m] H1 Q
  rw [ok.K]
  exact ⟨v, .ty m, _, _, k, rfl, .ty m, e2, kit_ty e3, q1.here g1 (.bl _)⟩
/-- xs[::-1] -/
theorem ie_rvl (ok : CxOk D G P cf j C W X) {a : E} {y : Expr} {k : Nat} {p1 p2 p3 pos : Pos} (ha : PE X y (tI D P cf W a)) : PE X (.Subscript y (.Slice none none (some (.UnaryOp .USub (.Constant (.int 1) k p1) p2)) p3) pos) (tI D P cf W (.bi .rvl (.cons a .nil))) := by
  refine PE.imp (pe_revL ha) fun σ H Q ⟨φ, env, S, g, e, q⟩ => ?_
  unfold ev evs evs at q
  rw [R.bind_assoc] at q
  refine ⟨φ, env, S, g, e, q.bind fun u S1 φ1 H1 v _ p1 t1 g1 r1 q1 => ?_⟩
  have q1 : SatR D (biU .rvl [u] S1) (RelU D) φ1 H1 Q (fun c d H1 => W c d σ H1) := q1
  obtain ⟨p, ys, e1, e2, e3⟩ := bi_ok g1 (.cons r1 .nil) q1 (fun t => by intro z; cases z)
  cases e1
  rw [ok.K]
  exact ⟨p, ys, rfl, e2, e3⟩
theorem op_rule (hK : X.K = D.K) {o : Bop} {op : Operator} (h : opB o op = true) : ∃ r : R2, OpR X (binaryOp op) r ∧ ∀ {φ : List Addr} {H : Hp} {S : Store} {u w : U} {x y : V} {Q : VK} {Ex : XK}, Sim D φ S H → RelU D φ H u x → RelU D φ H w y → SatR D (binU o u w S) (RelU D) φ H Q Ex → r x y H Q := by
  cases o <;> cases op <;> first | cases h | skip
  · exact ⟨rAdds X.K, opAdds, fun g r s q => by rw [hK]; exact bin_add g r s q⟩
  · exact ⟨_, op_sub, fun g r s q => bin_sub g r s q⟩
  · exact ⟨_, op_mul.or (op_rep.or op_repS), fun g r s q => bin_mul g r s q⟩
  · exact ⟨_, op_fdivW, fun g r s q => bin_fdiv g r s q⟩
  · exact ⟨_, op_mod, fun g r s q => bin_mod g r s q⟩
  · exact ⟨_, op_andM, fun g r s q => bin_band g r s q⟩
theorem ic_none : PTs X [] (tIc D P cf W .none) := PTs.imp pts_nil fun σ H Q ⟨φ, env, S, g, e, q⟩ => by
  unfold evc at q
  exact SatR.here (rel := fun _ _ (a b : Bool) => a = b) q g rfl
theorem ic_some {a : E} {x : Expr} (h : PT X x (tIt D P cf W a)) : PTs X [x] (tIc D P cf W (.some a)) := PTs.imp (pts_one h) fun σ H Q ⟨φ, env, S, g, e, q⟩ => ⟨φ, env, S, g, e, by unfold evc at q; exact q⟩
/-! ### objects -/
theorem PE.ex {ι : Type} {e : Expr} {t : ι → TE} (h : ∀ i, PE X e (t i)) : PE X e (fun σ H Q => ∃ i, t i σ H Q) := ⟨fun pins s σ H Q I ⟨i, q⟩ => (h i).run pins s σ H Q I q⟩
theorem mem_look {β : Type} : ∀ {l : List (Nat × β)} {c : Nat} {a : β}, l.lookup c = some a → (c, a) ∈ l
  | [], c, a, h => by cases h
  | (b, x) :: l, c, a, h => by
    rw [List.lookup_cons] at h
    split at h
    · cases h
      rename_i e
      rw [beq_iff_eq] at e
      subst e
      exact List.mem_cons_self
    · exact List.mem_cons_of_mem _ (mem_look h)
/-- an instance of the store -/
theorem Sim.ins {φ : List Addr} {H : Hp} {S : Store} {l c : Nat} {fs : List (Nat × U)} {v : V} (g : Sim D φ S H) (r : RelU D φ H (.ref l) v) (hS : S[l]? = some (.ins c fs)) : ∃ a dx gs, v = .ref a ∧ φ[l]? = some a ∧ H a = some (.ins (D.cA c) dx gs) ∧ RelF D φ H fs gs ∧ c ∈ D.cl ∧ ∀ q ∈ fs, ∀ x, D.nm[q.1]? = some x → NoAttr D.K (D.cA c) x := by
  cases r with
  | ref f =>
    obtain ⟨dx, gs, h1, h2, h3, h4⟩ := g.cell l _ _ hS f
    exact ⟨_, dx, gs, rfl, f, h1, h2, h3, h4⟩
theorem ie_fld (ok : CxOk D G P cf j C W X) {a : E} {f : Nat} {y : Expr} {x : PySem.Str} {pos : Pos} (hx : G.nm[f]? = some x) (hy : callB y = false) (ha : PE X y (tI D P cf W a)) : PE X (.Attribute y x pos) (tI D P cf W (.fld a f)) := by
  refine PE.imp (pe_fld ha (attr_base hy)) fun σ H Q ⟨φ, env, S, g, e, q⟩ => ?_
  unfold ev at q
  refine ⟨φ, env, S, g, e, q.bind fun u S1 φ1 H1 v _ p1 t1 g1 r1 q1 => ?_⟩
  split at q1
  · rename_i l
    split at q1
    · rename_i c fs hS
      obtain ⟨a, dx, gs, rfl, hf, h1, h2, h3, h4⟩ := g1.ins r1 hS
      obtain ⟨w, hw, q2⟩ := SatR.ofO q1
      have hn : D.nm[f]? = some x := by rw [ok.dnm]; exact hx
      obtain ⟨v, hv, rv⟩ := (RelF.look ok.nmd hn h2).1 w hw
      exact ⟨a, D.cA c, dx, gs, v, rfl, h1, ok.cls c h3, by rw [ok.K]; exact h4 _ (mem_look hw) x hn, hv, q2.here g1 rv⟩
    · exact q1.elim
  · exact q1.elim
theorem setf_st {φ : List Addr} {H : Hp} {S : Store} {c f l : Nat} {fs : List (Nat × U)} {u : U} {v : V} {a dx : Addr} {gs : List (PySem.Str × V)} {x : PySem.Str} (ok : CxOk D G P cf j C W X) (g : Sim D φ S H) (hS : S[l]? = some (.ins c fs)) (hf : φ[l]? = some a) (h1 : H a = some (.ins (D.cA c) dx gs)) (h2 : RelF D φ H fs gs) (h3 : c ∈ D.cl) (h4 : ∀ q ∈ fs, ∀ x, D.nm[q.1]? = some x → NoAttr D.K (D.cA c) x)
    (r : RelU D φ H u v) (hn : D.nm[f]? = some x) (hfl : P.flds.contains (c, f) = true) : Tm D H (upd H a (.ins (D.cA c) dx (putF x v gs))) ∧ Sim D φ (S.set l (.ins c (putU f u fs))) (upd H a (.ins (D.cA c) dx (putF x v gs))) := by
  have tm : Tm D H (upd H a (.ins (D.cA c) dx (putF x v gs))) := Tm.set h1 rfl
  refine ⟨tm, g.set hS hf rfl rfl fun _ => ⟨dx, _, upd_same, RelF.put ok.nmd hn (r.mono (List.prefix_refl _) tm) (h2.mono (List.prefix_refl _) tm), h3, fun q hq y hy => ?_⟩⟩
  have mem : ∀ {fs : List (Nat × U)}, q ∈ putU f u fs → q.1 = f ∨ q ∈ fs := by
    intro fs
    induction fs with
    | nil => intro h; unfold putU at h; rw [List.mem_singleton] at h; exact .inl (by rw [h])
    | cons p fs ih =>
      intro h
      obtain ⟨b, w⟩ := p
      unfold putU at h
      split at h
      · rcases List.mem_cons.mp h with h | h
        · exact .inl (by rw [h])
        · exact .inr (List.mem_cons_of_mem _ h)
      · rcases List.mem_cons.mp h with h | h
        · exact .inr (by rw [h]; exact List.mem_cons_self)
        · exact (ih h).imp id (List.mem_cons_of_mem _)
  rcases mem hq with h | h
  · rw [h] at hy
    have := ok.flf c f y (by simpa using hfl) hy
    rw [ok.K] at this
    exact this
  · exact h4 q h y hy
theorem is_setf {n : Nat} (ok : CxOk D G P cf j C W X) {o a : E} {f : Nat} {y z : Expr} {x : PySem.Str} {p' pos : Pos} (hx : G.nm[f]? = some x) (ho : PE X y (tI D P cf W o)) (ha : PE X z (tI D P cf W a)) (hs : swapsWith z (some (.Attribute y x p')) pos.line X.env = pure false) : PS X (.Assign [.Attribute y x p'] z pos) (tS D P cf n W (.setf o f a)) := by
  refine PS.imp (ps_fld ho ha hs) fun E σ H ⟨φ, env, S, g, e, q⟩ => ?_
  unfold ex at q
  refine ⟨φ, env, S, g, e, SatO.bind e q fun u S1 φ1 H1 v _ p1 t1 g1 r1 q1 => ?_⟩
  refine ⟨φ1, env, S1, g1, e.mono p1 t1, SatO.bind (e.mono p1 t1) q1 fun w S2 φ2 H2 v2 _ p2 t2 g2 r2 q2 => ?_⟩
  have hn : D.nm[f]? = some x := by rw [ok.dnm]; exact hx
  unfold setfU at q2
  split at q2
  · rename_i l
    split at q2
    · rename_i c fs hS
      split at q2
      · rename_i hc
        obtain ⟨a, dx, gs, rfl, hf, h1, h2, h3, h4⟩ := g2.ins r2 hS
        obtain ⟨tm, g3⟩ := setf_st ok g2 hS hf h1 h2 h3 h4 (r1.mono p2 t2) hn hc.2
        refine ⟨a, D.cA c, dx, gs, rfl, h1, ok.cls c h3, ok.flf c f x (by simpa using hc.2) hn, by rw [← h2.len]; exact hc.1, ?_⟩
        exact q2 φ2 _ σ (List.prefix_refl _) tm g3 (e.mono (p1.trans p2) (t1.trans (t2.trans tm)))
      · exact q2.elim
    · exact q2.elim
  · exact q2.elim
theorem is_augf {n : Nat} (ok : CxOk D G P cf j C W X) {o a : E} {f : Nat} {b : Bop} {op : Operator} {y z : Expr} {x : PySem.Str} {p' pos : Pos} (hb : (b = .add ∧ op = .Add) ∨ (b = .sub ∧ op = .Sub)) (hx : G.nm[f]? = some x) (ho : PE X y (tI D P cf W o)) (ha : PE X z (tI D P cf W a)) : PS X (.AugAssign (.Attribute y x p') op z pos) (tS D P cf n W (.augf o f b a)) := by
  have core : ∀ (rd : V → V → Hp → VK → Prop) (h2 : Int → Int → Int), (∀ (i j : Int) (H : Hp) (Q : VK), Q (.int (h2 i j)) H → rd (.int i) (.int j) H Q) →
      (∀ (u v w : U) (S : Store) (env : Env), (∃ i j, v = .int i ∧ w = .int j ∧ augU P.flds b u f v w env S = nxO env (setfU P.flds u f (.int (h2 i j)) S)) ∨ augU P.flds b u f v w env S = .stuck) →
      ∀ (E : Ends) (σ : L2.St) (H : Hp), tS D P cf n W (.augf o f b a) E σ H → sFldAug X.K (tI D P cf W o) (tI D P cf W a) rd x E σ H := by
    intro rd h2 hrd hm E σ H ⟨φ, env, S, g, e, q⟩
    unfold ex at q
    refine ⟨φ, env, S, g, e, SatO.bind e q fun u S1 φ1 H1 v hev p1 t1 g1 r1 q1 => ?_⟩
    clear hev
    have hn : D.nm[f]? = some x := by rw [ok.dnm]; exact hx
    split at q1
    · rename_i l
      split at q1
      · rename_i c fs hS
        obtain ⟨a1, dx, gs, rfl, hf, k1, k2, k3, k4⟩ := g1.ins r1 hS
        split at q1
        · rename_i w hw
          obtain ⟨vv, hv, rv⟩ := (RelF.look ok.nmd hn k2).1 w hw
          refine ⟨a1, D.cA c, dx, gs, vv, rfl, k1, ok.cls c k3, by rw [ok.K]; exact k4 _ (mem_look hw) x hn, hv, ?_⟩
          refine ⟨φ1, env, S1, g1, e.mono p1 t1, SatO.bind (e.mono p1 t1) q1 fun y S2 φ2 H2 v2 _ p2 t2 g2 r2 q2 => ?_⟩
          split at q2
          · rename_i hcl
            rcases hm (.ref l) w y S2 env with ⟨i, j, rfl, rfl, hq⟩ | hq
            · rw [hq] at q2
              cases rv
              cases r2
              refine hrd i j H2 _ ?_
              unfold setfU at q2
              simp only at q2
              split at q2
              · rename_i c' fs' hS2
                split at q2
                · rename_i hc
                  obtain ⟨a2, dx2, gs2, ea, hf2, m1, m2, m3, m4⟩ := g2.ins (r1.mono p2 t2) hS2
                  cases ea
                  obtain ⟨tm, g3⟩ := setf_st ok g2 hS2 hf2 m1 m2 m3 m4 (.int (h2 i j)) hn hc.2
                  have same : c' = c := by
                    unfold clsU at hcl
                    rw [hS2] at hcl
                    exact Option.some.inj hcl
                  subst same
                  refine ⟨dx2, gs2, m1, by rw [← m2.len]; exact hc.1, ?_⟩
                  exact q2 φ2 _ σ (List.prefix_refl _) tm g3 (e.mono (p1.trans p2) (t1.trans (t2.trans tm)))
                · exact q2.elim
              · exact q2.elim
            · rw [hq] at q2; exact q2.elim
          · exact q2.elim
        · exact q1.elim
      · exact q1.elim
    · exact q1.elim
  rcases hb with ⟨rfl, rfl⟩ | ⟨rfl, rfl⟩
  · refine PS.imp (ps_fldaug ho ha in_add) (core rAdd (fun i j => i + j) (fun i j H Q q => ⟨i, j, rfl, rfl, q⟩) fun u v w S env => ?_)
    cases v <;> cases w <;> first | exact .inr rfl | exact .inl ⟨_, _, rfl, rfl, rfl⟩
  · refine PS.imp (ps_fldaug ho ha in_sub) (core rSub (fun i j => i - j) (fun i j H Q q => ⟨i, j, rfl, rfl, q⟩) fun u v w S env => ?_)
    cases v <;> cases w <;> first | exact .inr rfl | exact .inl ⟨_, _, rfl, rfl, rfl⟩
/-! methods, constructors -/
theorem mcall_form {o : Expr} {m : PySem.Str} {apos pos : Pos} {es : List Expr} {env : PySem.Env} (hbase : attributeBase o m env (eval o env) = eval o env) (hform : methodCallForm (es.length + ([] : List Keyword).length) (backTo pos (starEach es env)) (backToKw pos (keywordEach [] env)) = true) (hline : (apos.endLine == pos.line) = true) :
    eval (.Call (.Attribute o m apos) es [] pos) env = (do
      let ov ← eval o env
      standAt apos.atName
      let (f, first) ← holding [ov] (getMethod ov m (do return (← importBound o env).getD true))
      callWith pos f first (backTo pos (starEach es env)) (backToKw pos (keywordEach [] env))) := by
  have hpos : methodCallPos true o env apos pos = pure pos := by unfold methodCallPos; simp [hline]
  rw [arm_eval_Call, hbase]
  unfold methodCall
  rw [hform, hpos]
  rfl
theorem form_of {es : List Expr} {pos : Pos} {env : PySem.Env} (h : es.all (fun e => !starB e) = true) (hl : es.length < 30) : methodCallForm (es.length + ([] : List Keyword).length) (backTo pos (starEach es env)) (backToKw pos (keywordEach [] env)) = true := by
  have h1 := star_any (pos := pos) (env := env) h
  have h2 : (backTo pos (starEach es env)).all (fun x => !x.1) = true := by
    rw [List.all_eq_true]
    intro x hx
    rw [List.any_eq_false] at h1
    simpa using h1 x hx
  unfold methodCallForm
  rw [h2]
  have h3 : (backToKw pos (keywordEach [] env)).all (fun x => x.1.isSome) = true := rfl
  have h4 : (backToKw pos (keywordEach [] env)).isEmpty = true := rfl
  rw [h3, h4]
  simpa using hl
section
variable {CX : CXT} {k : Nat} {Cc fa : Addr} {fd : FuncData} {ps : List PySem.Str} {sp : Sp} {Ew : L2.St → XK} {m x : PySem.Str} {ta : TE} {t : TA}
/-- o.m(..), whatever is raised there -/
def tMethT (Cc : Addr) (m : PySem.Str) (sp : Sp) (Ew : L2.St → XK) (ta : TE) (t : TA) : TE := fun σ H Q => ta σ H fun x H1 => ∃ a dx fs, x = .ref a ∧ H1 a = some (.ins Cc dx fs) ∧ fs.lookup m = none ∧
  t σ H1 fun vs H2 => sp (x :: vs) H2 Q (Ew σ)
theorem pe_methT {y : Expr} {es : List Expr} {apos pos : Pos} (hy : PE X y ta) (cl : Cls X.K Cc) (mm : Meth X.K Cc m fa) (F : FnOk X.prog X.w X.K X.mg X.base CX k fa fd ps sp) (rm : Room k X.A) (bn : Binds X.K fd ps []) (hp : ∀ σ, PassesAt CX X σ (Ew σ)) (hes : PA X es t)
    (hb : attributeBase y m X.env (eval y X.env) = eval y X.env) (ne : es ≠ []) (st : es.all (fun e => !starB e) = true) (few : es.length < 30) (ln : (apos.endLine == pos.line) = true) : PE X (.Call (.Attribute y m apos) es [] pos) (tMethT Cc m sp Ew ta t) := by
  refine ⟨fun pins s σ H Q I h => PySem.W.methodCall_KW (thn (hy.run pins s σ H _ I h) fun u s1 ⟨x, H1, I1, rx, a, dx, fs, ex, ea, lk, q⟩ => ?_) (mcall_form hb (form_of st few) ln)⟩
  subst ex
  obtain rfl : u = Value.ref a := rx
  refine getmeth_ok I1 ea cl mm lk ?_
  cases es with
  | nil => exact absurd rfl ne
  | cons e es =>
    rw [List.all_cons, Bool.and_eq_true] at st
    exact PySem.W.callWith_K (first := [Value.ref a]) (h₀ := X.base) I.ok.mod.kin mm.kp (thn (hes.run pos pins s1 σ H1 _ I1 q) fun us s2 ⟨vs, H2, I2, r, q2⟩ => ⟨I2.kIn, run_fnS (us := Value.ref a :: us) (vs := V.ref a :: vs) F rm bn (hp σ) I2 (.cons rfl r) q2⟩) (star_cons (by simpa using st.1)) (star_any st.2)
/-- o.m() -/
def tMethT0 (Cc : Addr) (m : PySem.Str) (sp : Sp) (Ew : L2.St → XK) (ta : TE) : TE := fun σ H Q => ta σ H fun x H1 => ∃ a dx fs, x = .ref a ∧ H1 a = some (.ins Cc dx fs) ∧ fs.lookup m = none ∧ sp [x] H1 Q (Ew σ)
theorem pe_methT0 {y : Expr} {apos pos : Pos} (hy : PE X y ta) (cl : Cls X.K Cc) (mm : Meth X.K Cc m fa) (F : FnOk X.prog X.w X.K X.mg X.base CX k fa fd ps sp) (rm : Room k X.A) (bn : Binds X.K fd ps []) (hp : ∀ σ, PassesAt CX X σ (Ew σ))
    (hb : attributeBase y m X.env (eval y X.env) = eval y X.env) (ln : (apos.endLine == pos.line) = true) : PE X (.Call (.Attribute y m apos) [] [] pos) (tMethT0 Cc m sp Ew ta) := by
  refine ⟨fun pins s σ H Q I h => PySem.W.methodCall_KW (thn (hy.run pins s σ H _ I h) fun u s1 ⟨x, H1, I1, rx, a, dx, fs, ex, ea, lk, q⟩ => ?_) (mcall_form hb (form_of rfl (by decide)) ln)⟩
  subst ex
  obtain rfl : u = Value.ref a := rx
  exact getmeth_ok I1 ea cl mm lk (PySem.W.callWith_K0 (first := [Value.ref a]) I1.kIn mm.kp (run_fnS (us := [Value.ref a]) (vs := [V.ref a]) F rm bn (hp σ) I1 (.cons rfl .nil) q))
/-- C(..) -/
def tMakeT (Cc : Addr) (sp : Sp) (Ew : L2.St → XK) (t : TA) : TE := fun σ H Q => t σ H fun vs H1 => ∀ x dx, H1 x = none → H1 dx = none → dx ≠ x → sp (V.ref x :: vs) (upd (upd H1 dx (.own x)) x (.ins Cc dx [])) (fun v H2 => v = .non ∧ Q (.ref x) H2) (Ew σ)
theorem run_makeT {pins : List (Addr × Obj)} {σ : L2.St} {H : Hp} {s : Shared} {Q : VK} {us : List Value} {vs : List V} (M : Mk X.K Cc fa) (F : FnOk X.prog X.w X.K X.mg X.base CX k fa fd ps sp) (rm : Room (k + 1) X.A) (bn : Binds X.K fd ps []) (hp : PassesAt CX X σ (Ew σ)) (I : L2.Inv X pins σ H s) (r : Vals vs us)
    (h : ∀ x dx, H x = none → H dx = none → dx ≠ x → sp (V.ref x :: vs) (upd (upd H dx (.own x)) x (.ins Cc dx [])) (fun v H2 => v = .non ∧ Q (.ref x) H2) (Ew σ)) :
    wpAny (model X.prog X.w) X.A (PySem.call (.ref Cc) us) (EP X pins σ Q) X.xe s := by
  have q0 := h (s.heap.objs.size + 1) s.heap.objs.size (I.hok.fresh (Nat.le_succ _)) (I.hok.fresh (Nat.le_refl _)) (Nat.ne_of_lt (Nat.lt_succ_self _))
  have J := Inv.made (C := Cc) I
  have rv : Vals (V.ref (s.heap.objs.size + 1) :: vs) (Value.ref (s.heap.objs.size + 1) :: us) := .cons rfl r
  have ln : (Value.ref (s.heap.objs.size + 1) :: us).length = ps.length := by rw [← rv.length]; exact F.len _ _ _ _ q0
  have bb := bn _ (Value.ref (s.heap.objs.size + 1) :: us) J.kIn (by rw [List.append_nil]; exact ln)
  rw [List.append_nil] at bb
  refine wpAny_call (make_map (f := fa) I.kIn M.makes M.init (beq_iff_eq.mp M.fn) (codeAny_mono (F.run _ X.stack _ _ ⟨Value.ref (s.heap.objs.size + 1) :: us, []⟩ (Value.ref (s.heap.objs.size + 1) :: us) _ _ (Ew σ) (rm.make Cc us []) (J.env0.make Cc us []) bb rv q0) fun o s' ho => ?_))
  cases o with
  | error e => exact hp pins _ _ e s' J ho
  | ok fl =>
    cases fl with
    | ret u =>
      obtain ⟨v, H', I3, rr, ev, q3⟩ := J.after ho
      subst ev
      exact ⟨rr, V.ref (s.heap.objs.size + 1), H', I3, rfl, q3⟩
    | next => exact ho.elim
    | brk => exact ho.elim
    | cont => exact ho.elim
theorem pe_makeT {es : List Expr} {p pos : Pos} (M : Mk X.K Cc fa) (F : FnOk X.prog X.w X.K X.mg X.base CX k fa fd ps sp) (rm : Room (k + 1) X.A) (hg : Gl X x) (hm : X.mg x = some (.ref Cc)) (bn : Binds X.K fd ps []) (hp : ∀ σ, PassesAt CX X σ (Ew σ)) (hes : PA X es t) (ne : es ≠ [])
    (hd : (x == ("__debug__" : PySem.Str)) = false) (st : es.all (fun e => !starB e) = true) : PE X (.Call (.Name x p) es [] pos) (tMakeT Cc sp Ew t) := by
  cases es with
  | nil => exact absurd rfl ne
  | cons e es =>
    rw [List.all_cons, Bool.and_eq_true] at st
    exact ⟨fun pins s σ H Q I h => wpAny_Call_Name_kw (ld_glob I hg hm (PySem.W.callWith_K (h₀ := X.base) I.ok.mod.kin M.kp (thn (hes.run pos pins s σ H _ I h) fun us s1 ⟨vs, H1, I1, r, q⟩ => ⟨I1.kIn, run_makeT M F rm bn (hp σ) I1 r q⟩) (star_cons (by simpa using st.1)) (star_any st.2)) hd)⟩
def tMakeT0 (Cc : Addr) (sp : Sp) (Ew : L2.St → XK) : TE := fun σ H Q => ∀ x dx, H x = none → H dx = none → dx ≠ x → sp [V.ref x] (upd (upd H dx (.own x)) x (.ins Cc dx [])) (fun v H2 => v = .non ∧ Q (.ref x) H2) (Ew σ)
theorem pe_makeT0 {p pos : Pos} (M : Mk X.K Cc fa) (F : FnOk X.prog X.w X.K X.mg X.base CX k fa fd ps sp) (rm : Room (k + 1) X.A) (hg : Gl X x) (hm : X.mg x = some (.ref Cc)) (bn : Binds X.K fd ps []) (hp : ∀ σ, PassesAt CX X σ (Ew σ))
    (hd : (x == ("__debug__" : PySem.Str)) = false) : PE X (.Call (.Name x p) [] [] pos) (tMakeT0 Cc sp Ew) :=
  ⟨fun pins s σ H Q I h => wpAny_Call_Name_kw (ld_glob I hg hm (PySem.W.callWith_K0 I.kIn M.kp (run_makeT (us := []) M F rm bn (hp σ) I .nil h)) hd)⟩
end
theorem Sim.extra {φ : List Addr} {H : Hp} {S : Store} (g : Sim D φ S H) {p : Addr} {o : HO} (hp : H p = none) : Sim D φ S (upd H p o) := by
  refine ⟨g.len, fun l c a e f => ?_, g.inj⟩
  refine (g.cell l c a e f).mono (List.prefix_refl _) (Tm.new hp) (fun t => ?_) (fun o v z => ?_)
  · obtain ⟨o1, h1, _⟩ := (g.cell l c a e f).soft t
    exact upd_ne (ne_of_none h1 hp)
  · rw [upd_ne (ne_of_none z hp)]; exact z
theorem props_none {m : Nat} (h : G.props.all (fun q => q.1.2 != m) = true) (c : Nat) : G.props.lookup (c, m) = none := by
  have : ∀ l : List ((Nat × Nat) × Nat), l.all (fun q => q.1.2 != m) = true → l.lookup (c, m) = none := by
    intro l
    induction l with
    | nil => intro _; rfl
    | cons q l ih =>
      intro h
      rw [List.all_cons, Bool.and_eq_true] at h
      obtain ⟨k, v⟩ := q
      rw [List.lookup_cons]
      have : ((c, m) == k) = false := by
        rw [beq_eq_false_iff_ne]
        intro e
        subst e
        simp at h
      rw [this]
      exact ih h.2
  exact this _ h
theorem SatR.impQ {α β : Type} {r : R α} {rel : List Addr → Hp → α → β → Prop} {φ : List Addr} {H : Hp} {Q Q' : β → Hp → Prop} {Ex : XK} (h : SatR D r rel φ H Q Ex) (k : ∀ v H, Q v H → Q' v H) : SatR D r rel φ H Q' Ex := by
  cases r with
  | val a S => exact fun φ1 H1 v p t g r => k _ _ (h φ1 H1 v p t g r)
  | exc c d S => exact h
  | stuck => exact h
theorem ie_meth (ok : CxOk D G P cf j C W X) (hc : C.calm = true) {m : Nat} {o : E} {es : Es} {y : Expr} {xs : List Expr} {n : PySem.Str} {apos cpos : Pos} (hm : m ∈ G.mnm) (hx : G.nm[m]? = some n) (hy : callB y = false) (ln : (apos.endLine == cpos.line) = true) (hp : G.props.all (fun q => q.1.2 != m) = true) (st : xs.all (fun e => !starB e) = true) (few : xs.length < 30)
    (ho : PE X y (tI D P cf W o)) (hes : PA X xs (tIs D P cf W es)) (hne : es = .nil ∧ xs = [] ∨ xs ≠ []) : PE X (.Call (.Attribute y n apos) xs [] cpos) (tI D P cf W (.meth m o es)) := by
  have hn : D.nm[m]? = some n := by rw [ok.dnm]; exact hx
  let ι := { q : Nat × Nat // P.meths.lookup (q.1, m) = some q.2 }
  have pick : ∀ (σ : L2.St) (H : Hp) (Q : VK), tI D P cf W (.meth m o es) σ H Q → ∃ (i : ι) (φ : List Addr) (env : Env) (S : Store), Sim D φ S H ∧ RelE D φ H env σ ∧ SatR D (ev P cf o env S) (RelU D) φ H (fun v H1 => ∃ φ1 S1 l fs, Sim D φ1 S1 H1 ∧ RelE D φ1 H1 env σ ∧ RelU D φ1 H1 (.ref l) v ∧ S1[l]? = some (.ins i.1.1 fs) ∧ fs.lookup m = none ∧ SatR D ((evs P cf es env S1).bind fun us S => cf i.1.2 (.ref l :: us) S) (RelU D) φ1 H1 Q (fun c d H2 => W c d σ H2)) (fun c d H1 => W c d σ H1) := fun σ H Q ⟨φ, env, S, g, e, q⟩ => by
    unfold ev at q
    cases he : ev P cf o env S with
    | stuck => rw [he] at q; exact q.elim
    | exc c d S1 =>
      rw [he] at q
      obtain ⟨c0, f0, h0⟩ := ok.mne m hm
      exact ⟨⟨(c0, f0), h0⟩, φ, env, S, g, e, by rw [he]; exact q⟩
    | val x S1 =>
      rw [he] at q
      simp only [R.bind] at q
      cases x <;> first | exact q.elim | skip
      rename_i l
      simp only at q
      split at q
      · rename_i c fs hS
        split at q
        · rename_i f hf hnone
          refine ⟨⟨(c, f), hf⟩, φ, env, S, g, e, ?_⟩
          rw [he]
          exact fun φ1 H1 v p t g1 r => ⟨φ1, S1, l, fs, g1, e.mono p t, r, hS, hnone, SatR.mono q p t⟩
        · exact q.elim
      · exact q.elim
  by_cases hxs : xs = []
  · subst hxs
    have hes0 : es = .nil := by rcases hne with ⟨h, _⟩ | h
                                · exact h
                                · exact absurd rfl h
    subst hes0
    refine PE.imp (PE.ex (ι := ι) (t := fun i => tMethT0 (D.cA i.1.1) n (spI D cf i.1.2) (fun σ => WE W σ) (tI D P cf W o)) fun i => ?_) fun σ H Q h => ?_
    · obtain ⟨hcl, mm, fd, ps, F, bn⟩ := ok.mth i.1.1 m i.1.2 n i.2 hn (props_none hp _)
      exact pe_methT0 ho (ok.cls _ hcl) mm F ((ok.room hc).mono (Nat.le_succ _)) bn (fun σ => passAt ok.tk σ) (attr_base hy) ln
    · obtain ⟨i, φ, env, S, g, e, q⟩ := pick σ H Q h
      refine ⟨i, φ, env, S, g, e, q.impQ fun v H1 ⟨φ1, S1, l, fs, g1, e1, r1, hS, hnone, q1⟩ => ?_⟩
      obtain ⟨a, dx, gs, rfl, hf, k1, k2, k3, k4⟩ := g1.ins r1 hS
      unfold evs at q1
      exact ⟨a, dx, gs, rfl, k1, (RelF.look ok.nmd hn k2).2 hnone, φ1, S1, [.ref l], g1, .cons r1 .nil, q1⟩
  · refine PE.imp (PE.ex (ι := ι) (t := fun i => tMethT (D.cA i.1.1) n (spI D cf i.1.2) (fun σ => WE W σ) (tI D P cf W o) (tIs D P cf W es)) fun i => ?_) fun σ H Q h => ?_
    · obtain ⟨hcl, mm, fd, ps, F, bn⟩ := ok.mth i.1.1 m i.1.2 n i.2 hn (props_none hp _)
      exact pe_methT ho (ok.cls _ hcl) mm F ((ok.room hc).mono (Nat.le_succ _)) bn (fun σ => passAt ok.tk σ) hes (attr_base hy) hxs st few ln
    · obtain ⟨i, φ, env, S, g, e, q⟩ := pick σ H Q h
      refine ⟨i, φ, env, S, g, e, q.impQ fun v H1 ⟨φ1, S1, l, fs, g1, e1, r1, hS, hnone, q1⟩ => ?_⟩
      obtain ⟨a, dx, gs, rfl, hf, k1, k2, k3, k4⟩ := g1.ins r1 hS
      refine ⟨a, dx, gs, rfl, k1, (RelF.look ok.nmd hn k2).2 hnone, φ1, env, S1, g1, e1, q1.bind fun us S2 φ2 H2 vs _ p2 t2 g2 r2 q2 => ?_⟩
      exact ⟨φ2, S2, .ref l :: us, g2, .cons (r1.mono p2 t2) r2, q2⟩
theorem R.exB_bind {α β : Type} {r : R α} {g : α → Store → R β} (h : r.exB = false) (h2 : ∀ u S, (g u S).exB = false) : (r.bind g).exB = false := by
  cases r with
  | val u S => exact h2 u S
  | exc c d S => cases h
  | stuck => rfl
theorem ie_prop (ok : CxOk D G P cf j C W X) (hc : C.calm = true) {m : Nat} {o : E} {y : Expr} {n : PySem.Str} {apos : Pos} (hm : m ∈ G.mnm) (hx : G.nm[m]? = some n) (hy : callB y = false) (hp : m ∈ G.pnm)
    (ho : PE X y (tI D P cf W o)) : PE X (.Attribute y n apos) (tI D P cf W (.meth m o .nil)) := by
  have hn : D.nm[m]? = some n := by rw [ok.dnm]; exact hx
  let ι := { q : Nat × Nat // P.meths.lookup (q.1, m) = some q.2 }
  refine PE.imp (PE.ex (ι := ι) (t := fun i => tProp (D.cA i.1.1) (spI D cf i.1.2) [] (fun _ _ _ => False) (tI D P cf W o)) fun i => ?_) fun σ H Q h => ?_
  · obtain ⟨hcl, ⟨p, pp⟩, _, fd, ps, F, bn⟩ := ok.prp i.1.1 m i.1.2 n i.2 hn hp
    exact pe_prop ho (ok.cls _ hcl) pp F (ok.room hc) bn .nil (fun _ _ _ _ _ _ _ h => by
      obtain ⟨_, _, _, _, _, _, _, _, _, _, _, _, z⟩ := h
      exact z.elim) (attr_base hy)
  · obtain ⟨φ, env, S, g, e, q⟩ := h
    unfold ev at q
    cases he : ev P cf o env S with
    | stuck => rw [he] at q; exact q.elim
    | exc c d S1 =>
      rw [he] at q
      obtain ⟨c0, f0, h0⟩ := ok.mne m hm
      exact ⟨⟨(c0, f0), h0⟩, φ, env, S, g, e, by rw [he]; exact q⟩
    | val x S1 =>
      rw [he] at q
      simp only [R.bind] at q
      cases x <;> first | exact q.elim | skip
      rename_i l
      simp only at q
      split at q
      · rename_i c fs hS
        split at q
        · rename_i f hf hnone
          refine ⟨⟨(c, f), hf⟩, φ, env, S, g, e, ?_⟩
          rw [he]
          intro φ1 H1 v p t g1 r
          obtain ⟨a, dx, gs, rfl, hfa, k1, k2, k3, k4⟩ := g1.ins r hS
          unfold evs at q
          have nx := (ok.prp c m f n hf hn hp).2.2.1 [.ref l] S1
          refine ⟨a, dx, gs, rfl, k1, φ1, S1, [.ref l], g1, .cons r .nil, ?_⟩
          have q := SatR.mono q p t
          simp only [R.bind] at q
          cases hcf : cf f [.ref l] S1 with
          | val u S2 => rw [hcf] at q; exact q
          | exc c2 d2 S2 => rw [hcf] at nx; cases nx
          | stuck => rw [hcf] at q; exact q
        · exact q.elim
      · exact q.elim
theorem ie_mk (ok : CxOk D G P cf j C W X) (hc : C.calm = true) {c : Nat} {es : Es} {xs : List Expr} {n : PySem.Str} {p pos : Pos} (hi : c ∈ G.ini) (hx : G.cnm[c]? = some n) (h2 : gloB C n = true) (st : xs.all (fun e => !starB e) = true) (hes : PA X xs (tIs D P cf W es)) (hne : es = .nil ∧ xs = [] ∨ xs ≠ []) :
    PE X (.Call (.Name n p) xs [] pos) (tI D P cf W (.mk c es)) := by
  obtain ⟨f, hf⟩ := ok.ine c hi
  obtain ⟨hcl, M, hm, fd, ps, F, bn⟩ := ok.ini c f n hf hx
  obtain ⟨hg, hd⟩ := glo_of ok h2
  have core : ∀ (σ : L2.St) (Q : VK) (φ1 : List Addr) (S1 : Store) (H1 : Hp) (us : List U) (vs : List V), Sim D φ1 S1 H1 → RelUs D φ1 H1 us vs → SatR D ((cf f (.ref S1.length :: us) (S1 ++ [.ins c []])).bind fun u S2 => match u with
      | .non => .val (.ref S1.length) S2
      | _ => .stuck) (RelU D) φ1 H1 Q (fun c d H2 => W c d σ H2) → ∀ x dx, H1 x = none → H1 dx = none → dx ≠ x → spI D cf f (V.ref x :: vs) (upd (upd H1 dx (.own x)) x (.ins (D.cA c) dx [])) (fun v H2 => v = .non ∧ Q (.ref x) H2) (WE W σ) := by
    intro σ Q φ1 S1 H1 us vs g1 r1 q1 x dx nx ndx hne
    have g2 := g1.extra (o := .own x) ndx
    have nx2 : (upd H1 dx (.own x)) x = none := by rw [upd_ne (fun h => hne h.symm)]; exact nx
    have g3 : Sim D (φ1 ++ [x]) (S1 ++ [.ins c []]) (upd (upd H1 dx (.own x)) x (.ins (D.cA c) dx [])) := g2.new nx2 ⟨dx, [], upd_same, .nil, hcl, fun q hq => by cases hq⟩ rfl
    have tm : Tm D H1 (upd (upd H1 dx (.own x)) x (.ins (D.cA c) dx [])) := (Tm.new ndx).trans (Tm.new nx2)
    have pp : φ1 <+: φ1 ++ [x] := List.prefix_append _ _
    have hl : (φ1 ++ [x])[S1.length]? = some x := by rw [← g1.len]; simp
    refine ⟨φ1 ++ [x], S1 ++ [.ins c []], .ref S1.length :: us, g3, .cons (.ref hl) (r1.mono pp tm), ?_⟩
    refine (SatR.mono q1 pp tm).bind fun u S2 φ2 H3 v _ p2 t2 g4 r2 q2 => ?_
    cases u <;> first | exact q2.elim | skip
    cases r2
    exact ⟨rfl, q2.here g4 (.ref (pre_at p2 hl))⟩
  by_cases hxs : xs = []
  · subst hxs
    have hes0 : es = .nil := by
      rcases hne with ⟨h, _⟩ | h
      · exact h
      · exact absurd rfl h
    subst hes0
    refine PE.imp (pe_makeT0 M F (ok.room hc) hg hm bn (fun σ => passAt ok.tk σ) hd) fun σ H Q ⟨φ, env, S, g, e, q⟩ => ?_
    unfold ev evs at q
    simp only [R.bind, hf] at q
    exact core σ Q φ S H [] [] g .nil q
  · refine PE.imp (pe_makeT M F (ok.room hc) hg hm bn (fun σ => passAt ok.tk σ) hes hxs hd st) fun σ H Q ⟨φ, env, S, g, e, q⟩ => ?_
    unfold ev at q
    simp only [hf] at q
    exact ⟨φ, env, S, g, e, q.bind fun us S1 φ1 H1 vs _ p1 t1 g1 r1 q1 => core σ Q φ1 S1 H1 us vs g1 r1 q1⟩
/-- an expression of a kind that is no and, or, not, comparison, if: a test by its value -/
def plainT : Expr → Bool
  | .UnaryOp .Not _ _ => false
  | .BoolOp _ _ _ => false
  | .IfExp _ _ _ _ => false
  | .Compare _ _ _ _ => false
  | _ => true
theorem plain_true {x : Expr} {env : PySem.Env} (h : plainT x = true) : ∀ whole, isTrue x env whole = (do let v ← whole; standAt x.pos; holding [v] (truthy v)) := by
  intro whole
  cases x with
  | UnaryOp o a p => cases o <;> first | rfl | cases h
  | BoolOp o a p => cases h
  | IfExp a b c p => cases h
  | Compare a b c p => cases h
  | _ => rfl
def isBool : Expr → Bool
  | .BoolOp _ _ _ => true
  | _ => false
end
end PyI
set_option Elab.async false
set_option linter.all false
set_option autoImplicit false
set_option maxRecDepth 100000
set_option maxHeartbeats 4000000
/-! The whole: every expression of the small machine that is the text's keeps what it says. -/
namespace PyI
open PySem L2
section
variable {D : Wd} {G : Gc} {P : Pg} {cf : Nat → List U → Store → R U} {j : Nat}
/-- x if z else y as a test -/
theorem pt_iff {X : Cx} {z x y : Expr} {pos : Pos} {tz ta tb : TT} (hc : PT X z tz) (ha : PT X x ta) (hb : PT X y tb) : PT X (.IfExp z x y pos) (fun σ H Q => tz σ H fun c H1 => if c = true then ta σ H1 Q else tb σ H1 Q) := ⟨fun pins s σ H Q I h => by
  show wpAny _ _ (do if ← isTrue z X.env (eval z X.env) then isTrue x X.env (eval x X.env) else isTrue y X.env (eval y X.env)) _ _ s
  refine wpAny_bind (thn (hc.run pins s σ H _ I h) fun c s1 ⟨H1, I1, q1⟩ => ?_)
  cases c with
  | true => exact ha.run pins s1 σ H1 Q I1 q1
  | false => exact hb.run pins s1 σ H1 Q I1 q1⟩
theorem it_ife {X : Cx} {W : WX} {c a b : E} {z x y : Expr} {pos : Pos} (hc : PT X z (tIt D P cf W c)) (ha : PT X x (tIt D P cf W a)) (hb : PT X y (tIt D P cf W b)) : PT X (.IfExp z x y pos) (tIt D P cf W (.ife c a b)) := by
  refine PT.imp (pt_iff hc ha hb) fun σ H Q ⟨φ, env, S, g, e, q⟩ => ?_
  unfold evt ev at q
  rw [R.bind_assoc] at q
  refine ⟨φ, env, S, g, e, ?_⟩
  have q2 : SatR D ((evt P cf c env S).bind fun k S => if k = true then evt P cf a env S else evt P cf b env S) (fun _ _ (a b : Bool) => a = b) φ H Q (fun c d H1 => W c d σ H1) := by
    unfold evt
    rw [R.bind_assoc]
    cases h1 : ev P cf c env S with
    | val u S1 =>
      rw [h1] at q
      cases hk : truU S1 u with
      | none => simp only [R.bind, hk] at q; exact q.elim
      | some k =>
        simp only [R.bind, hk] at q
        simp only [R.bind, tru, hk, ofO]
        cases k
        · simp only [Bool.false_eq_true, if_false]; exact q
        · simp only [if_true]; exact q
    | exc c d S1 => rw [h1] at q; exact q
    | stuck => rw [h1] at q; exact q
  refine q2.bind fun k S1 φ1 H1 k' _ p1 t1 g1 r1 q1 => ?_
  subst r1
  cases k with
  | true => rw [if_pos rfl]; exact ⟨φ1, env, S1, g1, e.mono p1 t1, q1⟩
  | false => rw [if_neg Bool.false_ne_true]; exact ⟨φ1, env, S1, g1, e.mono p1 t1, q1⟩
/-- an expression as a value, as a test -/
def OkE (D : Wd) (G : Gc) (P : Pg) (cf : Nat → List U → Store → R U) (j : Nat) (e : E) : Prop := ∀ (C : Cfg) (W : WX) (X : Cx) (x : Expr), CxOk D G P cf j C W X → mE G C e x = true → PE X x (tI D P cf W e) ∧ PT X x (tIt D P cf W e) ∧ (isBool x = true → PW X x (tIt D P cf W e))
theorem of_val {e : E} (C : Cfg) (W : WX) (X : Cx) (x : Expr) (ok : CxOk D G P cf j C W X) (hp : plainT x = true) (h : PE X x (tI D P cf W e)) : PE X x (tI D P cf W e) ∧ PT X x (tIt D P cf W e) ∧ (isBool x = true → PW X x (tIt D P cf W e)) :=
  ⟨h, it_val ok.K h (plain_true hp), fun z => by cases x <;> first | (cases z; done) | (cases hp; done)⟩
theorem ne_args {C : Cfg} {es : Es} {xs : List Expr} (h : mEs G C es xs = true) : es = .nil ∧ xs = [] ∨ xs ≠ [] := by
  cases xs with
  | cons x xs => exact .inr (by intro h; cases h)
  | nil =>
    cases es with
    | nil => exact .inl ⟨rfl, rfl⟩
    | cons e r => unfold mEs at h; cases h
def trsOf (D : Wd) (P : Pg) (cf : Nat → List U → Store → R U) (W : WX) : Es → List (TE × TE)
  | .cons k (.cons v r) => (tI D P cf W k, tI D P cf W v) :: trsOf D P cf W r
  | _ => []
def oddE : Es → Bool
  | .nil => false
  | .cons _ .nil => true
  | .cons _ (.cons _ r) => oddE r
def flatP : List (V × V) → List V
  | [] => []
  | (x, y) :: r => x :: y :: flatP r
theorem pairs_run : ∀ (es : Es) {W : WX} {φ : List Addr} {H : Hp} {env : Env} {σ : L2.St} {S : Store} {Q : List V → Hp → Prop} {Q' : List (V × V) → Hp → Prop}, (∀ ps H, Q (flatP ps) H → Q' ps H) → oddE es = false → Sim D φ S H → RelE D φ H env σ → SatR D (evs P cf es env S) (RelUs D) φ H Q (fun c d H1 => W c d σ H1) → tPairs (trsOf D P cf W es) σ H Q'
  | .nil, W, φ, H, env, σ, S, Q, Q', hQ, ho, g, e, q => by
    unfold evs at q
    exact hQ [] H (q.here g .nil)
  | .cons k .nil, W, φ, H, env, σ, S, Q, Q', hQ, ho, g, e, q => by cases ho
  | .cons k (.cons v r), W, φ, H, env, σ, S, Q, Q', hQ, ho, g, e, q => by
    unfold evs at q
    refine ⟨φ, env, S, g, e, q.bind fun u S1 φ1 H1 x _ p1 t1 g1 r1 q1 => ?_⟩
    unfold evs at q1
    rw [R.bind_assoc] at q1
    refine ⟨φ1, env, S1, g1, e.mono p1 t1, q1.bind fun w S2 φ2 H2 y _ p2 t2 g2 r2 q2 => ?_⟩
    rw [R.bind_assoc] at q2
    refine pairs_run (Q := fun vs H => Q (x :: y :: vs) H) (Q' := fun ps H => Q' ((x, y) :: ps) H) r (fun ps H h => hQ ((x, y) :: ps) H h) ho g2 (e.mono (p1.trans p2) (t1.trans t2)) (q2.bind fun us S3 φ3 H3 vs _ p3 t3 g3 r3 q3 => ?_)
    exact SatR.here (rel := RelUs D) (u := u :: w :: us) q3 g3 (.cons (r1.mono (p2.trans p3) (t2.trans t3)) (.cons (r2.mono p3 t3) r3))
theorem pairs_rel {φ : List Addr} {H : Hp} : ∀ {ps : List (V × V)} {us : List U} {kvs : List (Key × U)}, RelUs D φ H us (flatP ps) → pairsU us = some kvs → ∃ gs : List (L2.Key × V), ps = gs.map (fun kv => (kV kv.1, kv.2)) ∧ RelK D φ H kvs gs
  | [], us, kvs, r, h => by
    cases r
    cases h
    exact ⟨[], rfl, .nil⟩
  | (x, y) :: ps, us, kvs, r, h => by
    cases r with
    | cons a r =>
      cases r with
      | cons b r =>
        unfold pairsU at h
        split at h
        · rename_i q kvs' h1 h2
          cases h
          obtain ⟨gs, e, rk⟩ := pairs_rel r h2
          have ex := key_val h1 a
          subst ex
          exact ⟨(keyK q, y) :: gs, by rw [e]; rfl, .cons b rk⟩
        · cases h
theorem RelK.merge {φ : List Addr} {H : Hp} : ∀ {more acc : List (Key × U)} {gs ac : List (L2.Key × V)}, RelK D φ H more gs → RelK D φ H acc ac → RelK D φ H (more.foldl (fun a p => putKV p.1 p.2 a) acc) (L2.mergeK ac gs) := by
  intro more
  induction more with
  | nil => intro acc gs ac r s; cases r; exact s
  | cons p more ih =>
    intro acc gs ac r s
    cases r with
    | @cons k u v _ gs a r' => exact ih (acc := putKV k u acc) (gs := gs) (ac := L2.putK ac (keyK k) v) r' (s.put k a)
theorem even_of {C : Cfg} : ∀ {es : Es} {ks : List (Option Expr)} {vs : List Expr}, mKV G C es ks vs = true → oddE es = false
  | .nil, _, _, _ => rfl
  | .cons k .nil, ks, vs, h => by unfold mKV at h; cases h
  | .cons k (.cons v r), ks, vs, h => by
    unfold mKV at h
    split at h
    · cases ‹Es.cons k (.cons v r) = _›
    · rename_i e1
      cases e1
      exact even_of (es := r) (b2 (b2 h).2).2
    · cases h
theorem disp_run {es : Es} (ho : oddE es = false) {W : WX} {σ : L2.St} {H : Hp} {Q : VK} (q : tI D P cf W (.dctL es) σ H Q) : tDisp (trsOf D P cf W es) σ H Q := by
  obtain ⟨φ, env, S, g, e, q⟩ := q
  unfold ev at q
  intro p hp
  have g1 : Sim D (φ ++ [p]) (S ++ [.dct []]) (upd H p (.dK [])) := g.new hp ⟨[], upd_same, .nil⟩ rfl
  have q' := q.mono (List.prefix_append φ [p]) (Tm.new (o := .dK []) hp)
  have hpre : (φ ++ [p])[S.length]? = some p := by rw [← g.len]; simp
  refine pairs_run (Q := fun vs H2 => H2 p = some (.dK []) ∧ ∃ us kvs φ2, RelUs D φ2 H2 us vs ∧ pairsU us = some kvs ∧ kvs.length ≤ 15 ∧ ∀ gs, RelK D φ2 H2 kvs gs → Q (.ref p) (upd H2 p (.dK (L2.mergeK [] gs)))) es (fun ps H2 ⟨h1, us, kvs, φ2, h2, h3, h4, h5⟩ => ?_) ho g1 (e.mono (List.prefix_append _ _) (Tm.new hp)) (q'.bind fun us S1 φ1 H1 vs _ p1 t1 g2 r2 q2 => ?_)
  · obtain ⟨gs, eg, rk⟩ := pairs_rel h2 h3
    exact ⟨h1, gs, eg, by rw [← rk.len]; exact h4, h5 gs rk⟩
  · split at q2
    · rename_i kvs h1 h2
      split at q2
      · rename_i hz
        have f2 : φ1[S.length]? = some p := pre_at p1 hpre
        obtain ⟨gs0, e0, r0⟩ := g2.cell _ _ p h1 f2
        cases r0
        refine ⟨e0, us, kvs, φ1, r2, h2, hz, fun gs rk => ?_⟩
        exact q2 φ1 _ (.ref p) (List.prefix_refl _) (Tm.set e0 rfl) (g2.set h1 f2 rfl rfl fun tm => ⟨_, upd_same, (RelK.merge rk .nil).mono (List.prefix_refl _) tm⟩) (.ref f2)
      · exact q2.elim
    · exact q2.elim
mutual
theorem okE : ∀ e : E, OkE D G P cf j e
  | .var i => fun C W X x ok h => by
    unfold mE at h
    cases x <;> first | (cases h; done) | skip
    exact of_val C W X _ ok rfl (ie_var ok h)
  | .mov i => fun C W X x ok h => by
    unfold mE at h
    cases x <;> first | (cases h; done) | skip
    exact of_val C W X _ ok rfl (PE.imp (ie_var (D := D) (P := P) (cf := cf) (W := W) ok h) fun σ H Q ⟨φ, env, S, g, e, q⟩ => ⟨φ, env, S, g, e, by unfold ev at q ⊢; exact q⟩)
  | .esc i q a b c d => fun C W X x ok h => by
    unfold mE at h
    exact of_val C W X _ ok (by unfold escB at h; split at h <;> first | rfl | cases h) (ie_esc ok h)
  | .int i => fun C W X x ok h => by
    unfold mE at h
    split at h
    · have e := of_decide_eq_true h
      subst e
      exact of_val C W X _ ok rfl ie_int
    · cases h
  | .str i => fun C W X x ok h => by
    unfold mE at h
    split at h
    · have e := of_decide_eq_true h
      subst e
      exact of_val C W X _ ok rfl ie_str
    · cases h
  | .bl i => fun C W X x ok h => by
    unfold mE at h
    split at h
    · have e := of_decide_eq_true h
      subst e
      exact of_val C W X _ ok rfl ie_bl
    · cases h
  | .non => fun C W X x ok h => by
    unfold mE at h
    split at h
    · exact of_val C W X _ ok rfl ie_non
    · cases h
  | .glo i => fun C W X x ok h => by
    unfold mE at h
    split at h
    · obtain ⟨h1, h2⟩ := b2 h
      exact of_val C W X _ ok rfl (ie_glo ok (of_decide_eq_true h1) h2)
    · cases h
  | .fnv i => fun C W X x ok h => by
    unfold mE at h
    split at h
    · obtain ⟨h1, h2⟩ := b2 h
      exact of_val C W X _ ok rfl (ie_fnv ok (of_decide_eq_true h1) h2)
    · cases h
  | .bin o a b => fun C W X x ok h => by
    unfold mE at h
    split at h
    · obtain ⟨h1, h2⟩ := b2 h
      obtain ⟨h2, h3⟩ := b2 h2
      obtain ⟨r, ho, hr⟩ := op_rule (X := X) (D := D) ok.K h1
      exact of_val C W X _ ok rfl (ie_op ho hr (okE a C W X _ ok h2).1 (okE b C W X _ ok h3).1)
    · cases h
  | .neg a => fun C W X x ok h => by
    unfold mE at h
    split at h
    · exact of_val C W X _ ok rfl (ie_neg (okE a C W X _ ok h).1)
    · cases h
  | .cmp o a b => fun C W X x ok h => by
    unfold mE at h
    split at h
    · obtain ⟨h1, h2⟩ := b2 h
      obtain ⟨h1, h4⟩ := b2 h1
      obtain ⟨h1, h5⟩ := b2 h1
      obtain ⟨h2, h3⟩ := b2 h2
      obtain ⟨r, ho, hr⟩ := cm_rule (X := X) (D := D) ok.K (ok.units h1) h5
      exact ⟨ie_cmp ho hr (okE a C W X _ ok h2).1 (okE b C W X _ ok h3).1 (nb h4), it_cmp ho hr (okE a C W X _ ok h2).1 (okE b C W X _ ok h3).1 (nb h4), fun z => by cases z⟩
    · cases h
  | .cmp2 o p a b c => fun C W X x ok h => by
    unfold mE at h
    split at h
    · obtain ⟨h1, h2⟩ := b2 h
      obtain ⟨h1, h4⟩ := b2 h1
      obtain ⟨h1, h5⟩ := b2 h1
      obtain ⟨h1, h6⟩ := b2 h1
      obtain ⟨h2, h3⟩ := b2 h2
      obtain ⟨h2, h7⟩ := b2 h2
      obtain ⟨r, ho, hr⟩ := cm_rule (X := X) (D := D) ok.K (ok.units h1) h6
      obtain ⟨r', ho', hr'⟩ := cm_rule (X := X) (D := D) ok.K (ok.units h1) h5
      exact ⟨ie_cmp2 ho hr ho' hr' (okE a C W X _ ok h2).1 (okE b C W X _ ok h7).1 (okE c C W X _ ok h3).1 (nb h4), it_cmp2 ho hr ho' hr' (okE a C W X _ ok h2).1 (okE b C W X _ ok h7).1 (okE c C W X _ ok h3).1 (nb h4), fun z => by cases z⟩
    · cases h
  | .and a b => fun C W X x ok h => by
    unfold mE at h
    split at h
    · rename_i x y r pos
      obtain ⟨h1, h2⟩ := b2 h
      have ha := okE a C W X x ok h1
      cases r with
      | nil =>
        have hb := okE b C W X y ok h2
        have t := it_and (b := b) (pos := pos) ha.2.1 (pw_and1 hb.2.1)
        exact ⟨ie_and ok.K ha.1 (pe_one hb.1), t.pt, fun _ => t⟩
      | cons z r =>
        have hb := okE b C W X _ ok h2
        have t := it_and (b := b) (pos := pos) ha.2.1 (hb.2.2 rfl)
        exact ⟨ie_and ok.K ha.1 hb.1, t.pt, fun _ => t⟩
    · cases h
  | .or a b => fun C W X x ok h => by
    unfold mE at h
    split at h
    · rename_i x y r pos
      obtain ⟨h1, h2⟩ := b2 h
      have ha := okE a C W X x ok h1
      cases r with
      | nil =>
        have hb := okE b C W X y ok h2
        have t := it_or (b := b) (pos := pos) ha.2.1 (pw_or1 hb.2.1)
        exact ⟨ie_or ok.K ha.1 (pe_one hb.1), t.pt, fun _ => t⟩
      | cons z r =>
        have hb := okE b C W X _ ok h2
        have t := it_or (b := b) (pos := pos) ha.2.1 (hb.2.2 rfl)
        exact ⟨ie_or ok.K ha.1 hb.1, t.pt, fun _ => t⟩
    · cases h
  | .not a => fun C W X x ok h => by
    unfold mE at h
    split at h
    · have ha := okE a C W X _ ok h
      exact ⟨ie_not ok.K ha.1, it_not ha.2.1, fun z => by cases z⟩
    · cases h
  | .ife c a b => fun C W X x ok h => by
    unfold mE at h
    split at h
    · obtain ⟨h1, h2⟩ := b2 h
      obtain ⟨h2, h3⟩ := b2 h2
      have r := ie_ife (pos := by assumption) (okE c C W X _ ok h1).2.1 (okE a C W X _ ok h2).1 (okE b C W X _ ok h3).1
      exact ⟨r, it_ife (okE c C W X _ ok h1).2.1 (okE a C W X _ ok h2).2.1 (okE b C W X _ ok h3).2.1, fun z => by cases z⟩
    · cases h
  | .tup es => fun C W X x ok h => by
    unfold mE at h
    split at h
    · exact of_val C W X _ ok rfl (ie_tup (okEs es C W X _ ok h).1)
    · cases h
  | .lst es => fun C W X x ok h => by
    unfold mE at h
    split at h
    · exact of_val C W X _ ok rfl (ie_lst (okEs es C W X _ ok h).1)
    · cases h
  | .ix a b => fun C W X x ok h => by
    unfold mE at h
    split at h
    · obtain ⟨h1, h2⟩ := b2 h
      obtain ⟨hc, h1⟩ := b2 h1
      obtain ⟨h2, h3⟩ := b2 h2
      exact of_val C W X _ ok rfl (ie_ix ok.K (by have := ok.units hc; omega) (okE a C W X _ ok h2).1 (okE b C W X _ ok h3).1 (nb h1))
    · cases h
  | .cut a lo hi => fun C W X x ok h => by
    unfold mE at h
    split at h
    · obtain ⟨h1, h2⟩ := b2 h
      obtain ⟨h2, h3⟩ := b2 h2
      exact of_val C W X _ ok rfl (ie_cut ok.K (okE a C W X _ ok h1).1 (okEo lo C W X _ ok h2) (okEo hi C W X _ ok h3))
    · cases h
  | .fld a f => fun C W X x ok h => by
    unfold mE at h
    split at h
    · obtain ⟨h1, h2⟩ := b2 h
      obtain ⟨h1, h3⟩ := b2 h1
      exact of_val C W X _ ok rfl (ie_fld ok (of_decide_eq_true h1) (nb h3) (okE a C W X _ ok h2).1)
    · cases h
  | .call f es => fun C W X x ok h => by
    unfold mE at h
    split at h
    · obtain ⟨h1, h2⟩ := b2 h
      obtain ⟨h1, h3⟩ := b2 h1
      obtain ⟨h1, h4⟩ := b2 h1
      obtain ⟨h1, h5⟩ := b2 h1
      exact of_val C W X _ ok rfl (ie_call ok h1 (of_decide_eq_true h5) h4 h3 (okEs es C W X _ ok h2).1)
    · cases h
  | .callv x es => fun C W X x ok h => by unfold mE at h; cases h
  | .meth m o es => fun C W X x ok h => by
    unfold mE at h
    split at h
    · obtain ⟨h1, h2⟩ := b2 h
      obtain ⟨h2, h3⟩ := b2 h2
      obtain ⟨h1, s1⟩ := b2 h1
      obtain ⟨h1, s2⟩ := b2 h1
      obtain ⟨h1, s3⟩ := b2 h1
      obtain ⟨h1, s4⟩ := b2 h1
      obtain ⟨h1, s5⟩ := b2 h1
      obtain ⟨h1, s6⟩ := b2 h1
      obtain ⟨hc, s7⟩ := b2 h1
      exact of_val C W X _ ok rfl (ie_meth ok hc (of_decide_eq_true s7) (of_decide_eq_true s6) (nb s5) s4 s3 s2 (of_decide_eq_true s1) (okE o C W X _ ok h2).1 (okEs es C W X _ ok h3).1 (ne_args h3))
    · obtain ⟨h1, h2⟩ := b2 h
      obtain ⟨hA, h3⟩ := b2 h2
      obtain ⟨h1, s1⟩ := b2 h1
      obtain ⟨h1, s2⟩ := b2 h1
      obtain ⟨h1, s3⟩ := b2 h1
      obtain ⟨hc, s4⟩ := b2 h1
      have hA := (okE o C W X _ ok hA).1
      clear h2 h
      cases es with
      | nil => exact of_val C W X _ ok rfl (ie_prop ok hc (of_decide_eq_true s4) (of_decide_eq_true s3) (nb s2) (of_decide_eq_true s1) hA)
      | cons => cases h3
    · cases h
  | .mk c es => fun C W X x ok h => by
    unfold mE at h
    split at h
    · obtain ⟨h1, h2⟩ := b2 h
      obtain ⟨h1, s1⟩ := b2 h1
      obtain ⟨h1, s2⟩ := b2 h1
      obtain ⟨h1, s3⟩ := b2 h1
      obtain ⟨hc, s4⟩ := b2 h1
      exact of_val C W X _ ok rfl (ie_mk ok hc (of_decide_eq_true s4) (of_decide_eq_true s3) s2 s1 (okEs es C W X _ ok h2).1 (ne_args h2))
    · cases h
  | .bi b es => fun C W X x ok h => by
    unfold mE at h
    split at h
    · split at h
      · obtain ⟨h1, h2⟩ := b2 h
        obtain ⟨h1, s1⟩ := b2 h1
        obtain ⟨h1, s2⟩ := b2 h1
        obtain ⟨h1, s2x⟩ := b2 h1
        obtain ⟨h1, s3⟩ := b2 h1
        obtain ⟨h1, s4⟩ := b2 h1
        obtain ⟨h1, s5⟩ := b2 h1
        obtain ⟨h1, s6⟩ := b2 h1
        exact of_val C W X _ ok rfl (ie_isi ok (of_decide_eq_true s6) s5 (of_decide_eq_true s4) s3 (of_decide_eq_true s2x) (of_decide_eq_true s2) (nb s1) (okE _ C W X _ ok h2).1)
      · split at h
        · obtain ⟨h1, h2⟩ := b2 h
          obtain ⟨h1, s1⟩ := b2 h1
          obtain ⟨h1, s2⟩ := b2 h1
          obtain ⟨h1, s3⟩ := b2 h1
          obtain ⟨hc, s4⟩ := b2 h1
          have e := of_decide_eq_true s4
          subst e
          exact of_val C W X _ ok rfl (ie_bi ok hc (by assumption) s3 (of_decide_eq_true s2) s1 (okEs _ C W X _ ok h2).1)
        · cases h
      · cases h
    · split at h
      · exact of_val C W X _ ok rfl (ie_rvl ok (okE _ C W X _ ok h).1)
      · cases h
    · cases h
  | .bm b o es => fun C W X x ok h => by
    unfold mE at h
    split at h
    · obtain ⟨h1, h2⟩ := b2 h
      obtain ⟨h1, h3⟩ := b2 h1
      obtain ⟨h1, h4⟩ := b2 h1
      obtain ⟨h0, h1⟩ := b2 h1
      have hu : bmD b = true → X.A.units + 1 < cLine := fun hd => by
        rw [hd] at h0
        have := ok.units (by simpa using h0)
        omega
      obtain ⟨h2o, h5⟩ := b2 h2
      split at h5
      · obtain ⟨h6, h7⟩ := b2 h5
        exact of_val C W X _ ok rfl (ie_bm1 ok.K hu (of_decide_eq_true h1) (nb h4) h3 (nb h6) (okE o C W X _ ok h2o).1 (okEs es C W X _ ok h7).1)
      · obtain ⟨h6, h7⟩ := b2 h5
        obtain ⟨h6, h8⟩ := b2 h6
        exact of_val C W X _ ok rfl (ie_bm2 ok.K hu (of_decide_eq_true h1) (nb h4) h3 (nb h6) (nb h8) (okE o C W X _ ok h2o).1 (okEs es C W X _ ok h7).1)
      · split at h5
        · exact of_val C W X _ ok rfl (ie_bm0 ok.K hu (of_decide_eq_true h1) (nb h4) h3 (okE o C W X _ ok h2o).1)
        · cases h5
      · cases h5
    · cases h
  | .comp own t it c e => fun C W X x ok h => by
    unfold mE at h
    split at h
    · rename_i elt tg iter ifs as scope pos
      obtain ⟨h1, h2⟩ := b2 h
      obtain ⟨h1, s1⟩ := b2 h1
      obtain ⟨h1, s2⟩ := b2 h1
      obtain ⟨h1, s3⟩ := b2 h1
      obtain ⟨h1, s4⟩ := b2 h1
      obtain ⟨hc, s5⟩ := b2 h1
      obtain ⟨h2, h3⟩ := b2 h2
      obtain ⟨h2i, h4⟩ := b2 h2
      have e0 := of_decide_eq_true s5
      subst e0
      have hb : BlkOk X.N X.env.scope scope (ownOf C own) := by rw [ok.N, ok.sc]; exact blkOk_by s3
      have ht : ∀ i ∈ tgs t, i ∈ (ownOf C own).map (·.2) := fun i hi => by
        rw [own_snd]
        have := List.all_eq_true.mp s1 i hi
        simpa using this
      refine of_val C W X _ ok rfl (PE.imp (pe_lc (g := gOf X.K t) (ok.calm hc) (by rw [ok.N]; exact ok.nd) (okI it C W X _ _ ok h2i) hb (fun s H Cc cl fp => mT_ok (ok.blkd s H scope cl Cc fp) s2)
        (fun s H Cc cl fp => okEc c (C.blkd scope) WF _ _ (ok.blkd s H scope cl Cc fp) h4) (fun s H Cc cl fp => (okE e (C.blkd scope) WF _ _ (ok.blkd s H scope cl Cc fp) h3).1) (fold_set (nb s4))) fun σ H Q q => ?_)
      refine comp_run ok.K ht ?_
      rw [own_snd]
      exact q
    · cases h
  | .comp2 own t it c own1 t1 it1 c1 e => fun C W X x ok h => by
    unfold mE at h
    split at h
    · rename_i elt tg iter ifs as tg1 iter1 ifs1 as1 scope pos
      obtain ⟨h1, h2⟩ := b2 h
      obtain ⟨h1, s1⟩ := b2 h1
      obtain ⟨h1, s2⟩ := b2 h1
      obtain ⟨h1, s3⟩ := b2 h1
      obtain ⟨h1, s4⟩ := b2 h1
      obtain ⟨h1, s5⟩ := b2 h1
      obtain ⟨h1, s6⟩ := b2 h1
      obtain ⟨h1, s7⟩ := b2 h1
      obtain ⟨h1, s8⟩ := b2 h1
      obtain ⟨h1, s9⟩ := b2 h1
      obtain ⟨hc, s10⟩ := b2 h1
      obtain ⟨h2, h3⟩ := b2 h2
      obtain ⟨h2i, h4⟩ := b2 h2
      obtain ⟨h3, h5⟩ := b2 h3
      obtain ⟨h3, h6⟩ := b2 h3
      have e0 := of_decide_eq_true s10
      have e1 := of_decide_eq_true s9
      subst e0
      subst e1
      have hb : BlkOk X.N X.env.scope scope (ownOf C own) := by rw [ok.N, ok.sc]; exact blkOk_by s6
      have sub : ∀ {a b : List Nat}, (a.all fun i => b.contains i) = true → ∀ i ∈ a, i ∈ b := fun {a b} h i hi => by
        have := List.all_eq_true.mp h i hi
        simpa using this
      have ht : ∀ i ∈ tgs t, i ∈ (ownOf C own).map (·.2) := by rw [own_snd]; exact sub s3
      have hv : ∀ i ∈ own1, i ∈ (ownOf C own).map (·.2) := by rw [own_snd]; exact sub s1
      refine of_val C W X _ ok rfl (PE.imp (pe_lc2 (g := gOf X.K t) (g1 := gOf X.K t1) (ok.calm hc) (by rw [ok.N]; exact ok.nd) (okI it C W X _ _ ok h2i) hb hv (fun s H Cc cl fp => mT_ok (ok.blkd s H scope cl Cc fp) s5)
        (fun s H Cc cl fp => okEc c (C.blkd scope) WF _ _ (ok.blkd s H scope cl Cc fp) h4) (fun s H Cc cl fp => okI it1 (C.blkd scope) WF _ _ _ (ok.blkd s H scope cl Cc fp) h3) (fun s H Cc cl fp => mT_ok (ok.blkd s H scope cl Cc fp) s4) (fun s H Cc cl fp => okEc c1 (C.blkd scope) WF _ _ (ok.blkd s H scope cl Cc fp) h6)
        (fun s H Cc cl fp => (okE e (C.blkd scope) WF _ _ (ok.blkd s H scope cl Cc fp) h5).1) (fold_set (nb s8)) (fun env => fold_set (env := env) (nb s7))) fun σ H Q q => ?_)
      refine comp2_run ok.K ht (sub s2) ?_
      rw [own_snd]
      exact q
    · cases h
  | .dict0 => fun C W X x ok h => by
    unfold mE at h
    split at h
    · exact of_val C W X _ ok rfl (PE.imp pe_dnewK fun σ H Q ⟨φ, env, S, g, e, q⟩ => by
        unfold ev at q
        exact fun p hp => q (φ ++ [p]) _ (.ref p) (List.prefix_append _ _) (Tm.new hp) (g.new hp ⟨[], upd_same, .nil⟩ rfl) (.ref (by rw [← g.len]; simp)))
    · cases h
  | .dctL es => fun C W X x ok h => by
    unfold mE at h
    split at h
    · obtain ⟨h1, h2⟩ := b2 h
      obtain ⟨h1, s1⟩ := b2 h1
      obtain ⟨h1, s2⟩ := b2 h1
      obtain ⟨h1, s3⟩ := b2 h1
      exact of_val C W X _ ok rfl (PE.imp (pe_disp (okKV es C W X _ _ _ ok h2) h1 (of_decide_eq_true s3) (of_decide_eq_true s2) (of_decide_eq_true s1)) fun σ H Q q => disp_run (even_of h2) q)
    · cases h
  | .stk => fun C W X x ok h => by
    have no : ∀ {t : Prop} {φ : List Addr} {env : Env} {S : Store} {H : Hp} {α : Type} {Q : α → Hp → Prop} {Ex : XK} {rel : List Addr → Hp → α → α → Prop}, True := trivial
    exact ⟨⟨fun pins s σ H Q I ⟨φ, env, S, g, e, q⟩ => by unfold ev at q; exact q.elim⟩, ⟨fun pins s σ H Q I ⟨φ, env, S, g, e, q⟩ => by unfold evt ev at q; exact q.elim⟩, fun _ => ⟨fun wh pins s σ H Q I ⟨φ, env, S, g, e, q⟩ => by unfold evt ev at q; exact q.elim⟩⟩
theorem okKV : ∀ (es : Es) (C : Cfg) (W : WX) (X : Cx) (ks : List (Option Expr)) (vs : List Expr) (pos : Pos), CxOk D G P cf j C W X → mKV G C es ks vs = true → PPs X pos ks vs (trsOf D P cf W es)
  | .nil => fun C W X ks vs pos ok h => by
    unfold mKV at h
    obtain ⟨h1, h2⟩ := b2 h
    have e1 := List.isEmpty_iff.mp h1
    have e2 := List.isEmpty_iff.mp h2
    subst e1 e2
    exact pps_nil
  | .cons k .nil => fun C W X ks vs pos ok h => by unfold mKV at h; cases h
  | .cons k (.cons v r) => fun C W X ks vs pos ok h => by
    unfold mKV at h
    split at h
    · cases ‹Es.cons k (.cons v r) = _›
    · rename_i e1
      cases e1
      obtain ⟨h1, h2⟩ := b2 h
      obtain ⟨h2, h3⟩ := b2 h2
      exact pps_cons (okE _ C W X _ ok h1).1 (okE _ C W X _ ok h2).1 (okKV _ C W X _ _ pos ok h3)
    · cases h
theorem okEs : ∀ (es : Es) (C : Cfg) (W : WX) (X : Cx) (xs : List Expr), CxOk D G P cf j C W X → mEs G C es xs = true → PA X xs (tIs D P cf W es) ∧ True
  | .nil => fun C W X xs ok h => by
    unfold mEs at h
    cases xs with
    | nil => exact ⟨ia_nil, trivial⟩
    | cons x xs => cases h
  | .cons e r => fun C W X xs ok h => by
    unfold mEs at h
    split at h
    · obtain ⟨h1, h2⟩ := b2 h
      obtain ⟨h2, h3⟩ := b2 h2
      exact ⟨ia_cons (okE e C W X _ ok h2).1 (okEs r C W X _ ok h3).1 (nb h1), trivial⟩
    · cases h
theorem okEo : ∀ (e : Eo) (C : Cfg) (W : WX) (X : Cx) (x : Option Expr), CxOk D G P cf j C W X → mEo G C e x = true → PO X x (tIo D P cf W e)
  | .none => fun C W X x ok h => by
    unfold mEo at h
    cases x with
    | none => exact io_none
    | some x => cases h
  | .some e => fun C W X x ok h => by
    unfold mEo at h
    split at h
    · exact io_some (okE e C W X _ ok h).1
    · cases h
theorem okEc : ∀ (e : Eo) (C : Cfg) (W : WX) (X : Cx) (x : List Expr), CxOk D G P cf j C W X → mEc G C e x = true → PTs X x (tIc D P cf W e)
  | .none => fun C W X x ok h => by
    unfold mEc at h
    cases x with
    | nil => exact ic_none
    | cons x xs => cases h
  | .some e => fun C W X x ok h => by
    unfold mEc at h
    split at h
    · exact ic_some (okE e C W X _ ok h).2.1
    · cases h
theorem okI : ∀ (it : It) (C : Cfg) (W : WX) (X : Cx) (tg x : Expr), CxOk D G P cf j C W X → mI G C it tg x = true → PI X tg x (tIq D P cf W it)
  | .seq e => fun C W X tg x ok h => by
    unfold mI at h
    exact ii_seq ok.K (okE e C W X _ ok h).1
  | .chars e => fun C W X tg x ok h => by
    unfold mI at h
    exact PI.imp (ii_seq ok.K (okE e C W X _ ok h).1) fun σ H R ⟨φ, env, S, g, e, q⟩ => ⟨φ, env, S, g, e, by unfold evi at q ⊢; exact q⟩
  | .rng1 e => fun C W X tg x ok h => by
    unfold mI at h
    split at h
    · obtain ⟨h1, h2⟩ := b2 h
      obtain ⟨h1, s1⟩ := b2 h1
      obtain ⟨h1, s2⟩ := b2 h1
      obtain ⟨h1, s3⟩ := b2 h1
      have e0 := of_decide_eq_true h1
      subst e0
      exact ii_rng1 ok (okE e C W X _ ok h2).1 s3 (of_decide_eq_true s2) (nb s1)
    · cases h
  | .rrng1 e => fun C W X tg x ok h => by
    unfold mI at h
    split at h
    · obtain ⟨h1, h2⟩ := b2 h
      obtain ⟨h1, s1⟩ := b2 h1
      obtain ⟨h1, s2⟩ := b2 h1
      obtain ⟨h1, s3⟩ := b2 h1
      obtain ⟨h1, s4⟩ := b2 h1
      obtain ⟨h1, s5⟩ := b2 h1
      obtain ⟨h1, s6⟩ := b2 h1
      have e0 := of_decide_eq_true h1
      subst e0
      have e1 := of_decide_eq_true s4
      subst e1
      exact ii_rrng1 ok (okE e C W X _ ok h2).1 s3 (of_decide_eq_true s2) (nb s1) s6 (of_decide_eq_true s5)
    · cases h
  | .rng2 a b => fun C W X tg x ok h => by
    unfold mI at h
    split at h
    · obtain ⟨h1, h2⟩ := b2 h
      obtain ⟨h1, s0⟩ := b2 h1
      obtain ⟨h1, s1⟩ := b2 h1
      obtain ⟨h1, s2⟩ := b2 h1
      obtain ⟨h1, s3⟩ := b2 h1
      obtain ⟨h2, h3⟩ := b2 h2
      have e0 := of_decide_eq_true h1
      subst e0
      exact ii_rng2 ok (okE a C W X _ ok h2).1 (okE b C W X _ ok h3).1 s3 (of_decide_eq_true s2) (nb s1) (nb s0)
    · cases h
  | .rev e => fun C W X tg x ok h => by
    unfold mI at h
    split at h
    · obtain ⟨h1, h2⟩ := b2 h
      obtain ⟨h1, s1⟩ := b2 h1
      obtain ⟨h1, s2⟩ := b2 h1
      obtain ⟨h1, s3⟩ := b2 h1
      have e0 := of_decide_eq_true h1
      subst e0
      exact ii_rev ok (okE e C W X _ ok h2).1 s3 (of_decide_eq_true s2) (nb s1)
    · cases h
  | .enum e => fun C W X tg x ok h => by
    unfold mI at h
    split at h
    · obtain ⟨h1, h2⟩ := b2 h
      obtain ⟨h1, s1⟩ := b2 h1
      obtain ⟨h1, s2⟩ := b2 h1
      obtain ⟨h1, s3⟩ := b2 h1
      obtain ⟨h1, s4⟩ := b2 h1
      have e0 := of_decide_eq_true s4
      subst e0
      cases tg <;> first | (cases h1; done) | skip
      exact ii_enum ok (okE e C W X _ ok h2).1 s3 (of_decide_eq_true s2) (nb s1)
    · cases h
  | .zip a b => fun C W X tg x ok h => by
    unfold mI at h
    split at h
    · obtain ⟨h1, h2⟩ := b2 h
      obtain ⟨h1, s0⟩ := b2 h1
      obtain ⟨h1, s1⟩ := b2 h1
      obtain ⟨h1, s2⟩ := b2 h1
      obtain ⟨h1, s3⟩ := b2 h1
      obtain ⟨h1, s4⟩ := b2 h1
      obtain ⟨h2, h3⟩ := b2 h2
      have e0 := of_decide_eq_true s4
      subst e0
      cases tg <;> first | (cases h1; done) | skip
      exact ii_zip ok (okE a C W X _ ok h2).1 (okE b C W X _ ok h3).1 s3 (of_decide_eq_true s2) (nb s1) (nb s0)
    · cases h
end
end
end PyI
set_option Elab.async false
set_option linter.all false
set_option autoImplicit false
set_option maxRecDepth 100000
set_option maxHeartbeats 4000000
/-! Statements of the text, defs, the law. -/
namespace PyI
open PySem L2
section
variable {D : Wd} {G : Gc} {P : Pg} {cf : Nat → List U → Store → R U} {j n : Nat} {C : Cfg} {W : WX} {X : Cx}
theorem seti_ok {φ : List Addr} {H : Hp} {S S1 : Store} {x i u : U} {vx vi vu : V} (g : Sim D φ S H) (r : RelU D φ H x vx) (ri : RelU D φ H i vi) (ru : RelU D φ H u vu) (h : setiU x i u S = some S1) {Q : Hp → Prop}
    (q : ∀ H1, Tm D H H1 → Sim D φ S1 H1 → Q H1) : rSetL vx vi vu H Q ∨ rSetD vx vi vu H Q := by
  unfold setiU at h
  split at h
  · rename_i l
    split at h
    · rename_i us e
      split at h
      · rename_i k
        cases r with
        | ref f =>
          rename_i a
          cases ri
          obtain ⟨vs, h1, r1⟩ := g.cell _ _ a e f
          have fin : ∀ jx : Nat, ixN us.length k = some jx → some (S.set l (.lst (us.set jx u))) = some S1 → rSetL (.ref a) (.int k) vu H Q ∨ rSetD (.ref a) (.int k) vu H Q := fun jx hj h => by
            cases h
            refine .inl ⟨a, vs, k, jx, rfl, rfl, h1, by rw [← r1.len]; exact hj, ?_⟩
            exact q _ (Tm.set h1 rfl) (g.set e f rfl rfl fun tm => ⟨_, upd_same, (r1.mono (List.prefix_refl _) tm).set (ru.mono (List.prefix_refl _) tm) jx⟩)
          split at h
          · split at h
            · exact fin k.toNat (by unfold ixN; rw [if_pos (by assumption), if_pos (by assumption)]) h
            · cases h
          · split at h
            · exact fin _ (by unfold ixN; rw [if_neg (by assumption), if_pos (by assumption)]) h
            · cases h
      · cases h
    · rename_i kvs e
      split at h
      · rename_i k hk
        split at h
        · rename_i hz
          cases h
          cases r with
          | ref f =>
            rename_i a
            obtain ⟨gs, h1, rk⟩ := g.cell _ _ a e f
            have ey := key_val hk ri
            subst ey
            refine .inr ⟨a, _, rfl, DPut.k h1 (by rw [sizeLine_eq, ← rk.len]; exact hz), ?_⟩
            exact q _ (Tm.set h1 rfl) (g.set e f rfl rfl fun tm => ⟨_, upd_same, (rk.put k ru).mono (List.prefix_refl _) tm⟩)
        · cases h
      · cases h
    · cases h
  · cases h
theorem is_del {o i : E} {xo xi : Expr} {p pos : Pos} (ho : PE X xo (tI D P cf W o)) (hi : PE X xi (tI D P cf W i)) : PS X (.Delete [.Subscript xo xi p] pos) (tS D P cf n W (.del o i)) := by
  refine PS.imp (ps_ddel ho hi) fun E σ H ⟨φ, env, S, g, e, q⟩ => ?_
  unfold ex at q
  refine ⟨φ, env, S, g, e, SatO.bind e q fun w S1 φ1 H1 v _ p1 t1 g1 r1 q1 => ?_⟩
  refine ⟨φ1, env, S1, g1, e.mono p1 t1, SatO.bind (e.mono p1 t1) q1 fun k S2 φ2 H2 v2 _ p2 t2 g2 r2 q2 => ?_⟩
  have r1 := r1.mono p2 t2
  cases hS : delU w k S2 with
  | none => rw [hS] at q2; exact q2.elim
  | some S4 =>
    rw [hS] at q2
    unfold delU at hS
    split at hS
    · split at hS
      · rename_i l kvs e1
        split at hS
        · rename_i kk hk
          split at hS
          · rename_i hz
            cases hS
            cases r1 with
            | ref f =>
              rename_i a
              obtain ⟨gs, h1, rk⟩ := g2.cell _ _ a e1 f
              have ey := key_val hk r2
              subst ey
              refine ⟨a, gs, keyK kk, rfl, h1, rfl, ?_, ?_⟩
              · rcases rk.get kk with ⟨e2, e3⟩ | ⟨p, q, e2, e3, _⟩
                · rw [e2] at hz; cases hz
                · rw [e3]; rfl
              · exact q2 φ2 _ σ (List.prefix_refl _) (Tm.set h1 rfl) (g2.set e1 f rfl rfl fun tm => ⟨_, upd_same, (rk.drop kk).mono (List.prefix_refl _) tm⟩) (e.mono (p1.trans p2) (t1.trans (t2.trans (Tm.set h1 rfl))))
          · cases hS
        · cases hS
      · cases hS
    · cases hS
theorem PSet.or {X : Cx} {t t' : TSet} (h : PSet X t) (h' : PSet X t') : PSet X (fun o i v H Q => t o i v H Q ∨ t' o i v H Q) := by
  intro pins s σ H o i v ov iv u Q I ro ri rv q
  exact q.elim (h pins s σ H o i v ov iv u Q I ro ri rv) (h' pins s σ H o i v ov iv u Q I ro ri rv)
theorem is_stk {x : Stmt} : PS X x (tS D P cf n W .stk) := ⟨fun pins s σ H Q I ⟨φ, env, S, g, e, q⟩ => by unfold ex at q; exact q.elim⟩
theorem iss_kill {ks : List Nat} {r : Sts} {xs : List Stmt} (h : PSs X xs (tSs D P cf n W r)) : PSs X xs (tSs D P cf n W (.cons (.kill ks) r)) := PSs.imp h fun E σ H ⟨φ, env, S, g, e, q⟩ => by
  unfold exs ex at q
  exact ⟨φ, env, S, g, e, q⟩
theorem swap_sub {x xo xi : Expr} {p : Pos} {l : Nat} {env : PySem.Env} : swapsWith x (some (.Subscript xo xi p)) l env = pure false := by cases x <;> rfl
theorem is_seti {o i a : E} {xo xi x : Expr} {p pos : Pos} (hu : X.A.units + 1 < cLine) (ho : PE X xo (tI D P cf W o)) (hi : PE X xi (tI D P cf W i)) (ha : PE X x (tI D P cf W a)) (hxi : sliceB xi = false) (hsl : swappedStores [.Subscript xo xi p] x X.env = pure none) : PS X (.Assign [.Subscript xo xi p] x pos) (tS D P cf n W (.seti o i a)) := by
  refine PS.imp (ps_asg ha (pg_sub ho hi (PSet.or set_list (set_dict hu)) (fun v => by cases xi <;> first | rfl | cases hxi)) (by unfold swapsWithSole; exact swap_sub) hsl rfl) fun E σ H ⟨φ, env, S, g, e, q⟩ => ?_
  unfold ex at q
  refine ⟨φ, env, S, g, e, SatO.bind e q fun u S1 φ1 H1 v _ p1 t1 g1 r1 q1 => ?_⟩
  refine ⟨φ1, env, S1, g1, e.mono p1 t1, SatO.bind (e.mono p1 t1) q1 fun w S2 φ2 H2 v2 _ p2 t2 g2 r2 q2 => ?_⟩
  refine ⟨φ2, env, S2, g2, e.mono (p1.trans p2) (t1.trans t2), SatO.bind (e.mono (p1.trans p2) (t1.trans t2)) q2 fun k S3 φ3 H3 v3 _ p3 t3 g3 r3 q3 => ?_⟩
  cases hS : setiU w k u S3 with
  | none => rw [hS] at q3; exact q3.elim
  | some S4 =>
    rw [hS] at q3
    exact seti_ok g3 (r2.mono p3 t3) r3 (r1.mono (p2.trans p3) (t2.trans t3)) hS fun H4 t4 g4 => q3 φ3 H4 σ (List.prefix_refl _) t4 g4 (e.mono (p1.trans (p2.trans p3)) (t1.trans (t2.trans (t3.trans t4))))
/-- y = [..] -/
theorem is_setC {i : Nat} {own : List Nat} {t : Tg} {it : It} {c : Eo} {e0 : E} {y : PySem.Str} {elt tg iter : Expr} {ifs : List Expr} {scope : Scope} {pos py spos : Pos} (ok : CxOk D G P cf j C W X) (hl : locB C i y = true) (hyl : C.sc.names.lookup y = some .local)
    (hsw : swapsWith (.ListComp elt [⟨tg, iter, ifs, 0⟩] scope pos) (some (.Name y py)) spos.line X.env = pure true)
    (rule : ∀ (tq : TI) (tt : TT) (te : TE), PI X tg iter tq → (∀ (s : Shared) (H : Hp) (Cc : Addr) (cl : List (PySem.Str × Addr)) (fp : List Addr), PTs (X.blk s H scope (compEnvC scope cl Cc X.env) fp) ifs tt) → (∀ (s : Shared) (H : Hp) (Cc : Addr) (cl : List (PySem.Str × Addr)) (fp : List Addr), PE (X.blk s H scope (compEnvC scope cl Cc X.env) fp) elt te) →
      PS X (.Assign [.Name y py] (.ListComp elt [⟨tg, iter, ifs, 0⟩] scope pos) spos) (tAsg (tLc tq (gOf X.K t) tt te ((ownOf C own).map (·.2))) (gName i)))
    (ht : ∀ i ∈ tgs t, i ∈ own) (hi : PI X tg iter (tIq D P cf W it)) (hc : ∀ (s : Shared) (H : Hp) (Cc : Addr) (cl : List (PySem.Str × Addr)) (fp : List Addr), PTs (X.blk s H scope (compEnvC scope cl Cc X.env) fp) ifs (tIc D P cf WF c)) (he : ∀ (s : Shared) (H : Hp) (Cc : Addr) (cl : List (PySem.Str × Addr)) (fp : List Addr), PE (X.blk s H scope (compEnvC scope cl Cc X.env) fp) elt (tI D P cf WF e0)) :
    PS X (.Assign [.Name y py] (.ListComp elt [⟨tg, iter, ifs, 0⟩] scope pos) spos) (tS D P cf n W (.asg (.nm i) (.comp own t it c e0))) := by
  refine PS.imp (rule _ _ _ hi hc he) fun E σ H ⟨φ, env, S, g, e, q⟩ => ?_
  unfold ex at q
  refine comp_run (W := W) ok.K (by rw [own_snd]; exact ht) ?_
  rw [own_snd]
  refine ⟨φ, env, S, g, e, SatO.bind e q fun u S1 φ1 H1 v _ p1 t1 g1 r1 q1 => ?_⟩
  exact q1 φ1 H1 _ (List.prefix_refl _) (Tm.refl _ _) g1 ((e.mono p1 t1).set r1 i)
theorem sw_false {x : Expr} {y : PySem.Str} {py : Pos} {l : Nat} {env : PySem.Env} (h : (py.line == x.pos.line) = false) : swapsWith x (some (.Name y py)) l env = pure false := by
  cases x with
  | ListComp elt gs sc pos =>
    unfold swapsWith
    dsimp only
    rw [h]
    cases (env.blockKind == ScopeKind.function) <;> cases (env.kindOf y == some NameKind.local) <;> rfl
  | SetComp elt gs sc pos =>
    unfold swapsWith
    dsimp only
    rw [h]
    cases (env.blockKind == ScopeKind.function) <;> cases (env.kindOf y == some NameKind.local) <;> rfl
  | DictComp k elt gs sc pos =>
    unfold swapsWith
    dsimp only
    rw [h]
    cases (env.blockKind == ScopeKind.function) <;> cases (env.kindOf y == some NameKind.local) <;> rfl
  | _ => rfl
theorem sw_cell {x : Expr} {y : PySem.Str} {py : Pos} {l : Nat} {env : PySem.Env} (h : env.scope.names.lookup y ≠ some .local) : swapsWith x (some (.Name y py)) l env = pure false := by
  have hk : (env.kindOf y == some NameKind.local) = false := by
    unfold Env.kindOf
    cases hl : env.scope.names.lookup y with
    | none => rfl
    | some k =>
      rw [hl] at h
      cases k <;> first | rfl | exact absurd rfl h
  cases x <;> first
    | rfl
    | (unfold swapsWith; dsimp only; rw [hk]; cases (env.blockKind == ScopeKind.function) <;> rfl)
theorem is_setK {i : Nat} {a : E} {y : PySem.Str} {x : Expr} {py pos : Pos} (ok : CxOk D G P cf j C W X) (ha : PE X x (tI D P cf W a)) (hl : locB C i y = true) (hx : C.sc.names.lookup y ≠ some .local) : PS X (.Assign [.Name y py] x pos) (tS D P cf n W (.asg (.nm i) a)) := by
  obtain ⟨h1, h2, h3⟩ := loc_of ok hl
  refine PS.imp (ps_set (by rw [ok.N]; exact ok.nd) h1 h2 ha (sw_cell (by rw [ok.sc]; exact hx)) h3) fun E σ H ⟨φ, env, S, g, e, q⟩ => ?_
  unfold ex at q
  refine ⟨φ, env, S, g, e, SatO.bind e q fun u S1 φ1 H1 v _ p1 t1 g1 r1 q1 => ?_⟩
  exact q1 φ1 H1 _ (List.prefix_refl _) (Tm.refl _ _) g1 ((e.mono p1 t1).set r1 i)
theorem is_setL {i : Nat} {a : E} {y : PySem.Str} {x : Expr} {py pos : Pos} (ok : CxOk D G P cf j C W X) (ha : PE X x (tI D P cf W a)) (hl : locB C i y = true) (hx : (py.line == x.pos.line) = false) : PS X (.Assign [.Name y py] x pos) (tS D P cf n W (.asg (.nm i) a)) := by
  obtain ⟨h1, h2, h3⟩ := loc_of ok hl
  refine PS.imp (ps_set (by rw [ok.N]; exact ok.nd) h1 h2 ha (sw_false hx) h3) fun E σ H ⟨φ, env, S, g, e, q⟩ => ?_
  unfold ex at q
  refine ⟨φ, env, S, g, e, SatO.bind e q fun u S1 φ1 H1 v _ p1 t1 g1 r1 q1 => ?_⟩
  exact q1 φ1 H1 _ (List.prefix_refl _) (Tm.refl _ _) g1 ((e.mono p1 t1).set r1 i)
end
def tupX : Expr → Bool
  | .Tuple _ _ _ => true
  | _ => false
theorem no_swapS {t x : Expr} {env : PySem.Env} (h : tupX x = false) : swappedStores [t] x env = pure none := by
  cases x <;> first | (cases h; done) | (cases t <;> rfl)
theorem no_swapN {o i x : Expr} {p : Pos} {env : PySem.Env} : swappedStores [.Subscript o i p] x env = pure none := by
  cases x <;> rfl
theorem swap_two {y1 y2 : PySem.Str} {px py pt pt2 : Pos} {kt k2 : Nat} {x1 x2 : Expr} {env : PySem.Env} (hk : env.blockKind = .function) (h1 : env.kindOf y1 = some .local) (h2 : env.kindOf y2 = some .local) (hl : (py.line == px.line) = true) (hne : (y2 == y1) = false) (s1 : starB x1 = false) (s2 : starB x2 = false) :
    swappedStores [.Tuple [.Name y1 px, .Name y2 py] kt pt] (.Tuple [x1, x2] k2 pt2) env = if foldedForSure 8 x1 = true ∧ foldedForSure 8 x2 = true then pure none else if constantsAlone 8 x1 = true ∧ constantsAlone 8 x2 = true then (fun a => some [y1, y2]) <$> (unsupported "assign.tuple-of-constant-expressions:order-of-the-stores" : Sem Unit) else pure (some [y1, y2]) := by
  have hl2 : py.line = px.line := by simpa using hl
  unfold swappedStores
  simp only [hk]
  simp [h1, h2, hl2, Expr.pos, List.eraseDups, List.eraseDupsBy, List.eraseDupsBy.loop, hne]
  intro hA
  rcases hA with hA | hA
  · exact absurd (show starB x1 = true from hA) (by rw [s1]; decide)
  · exact absurd (show starB x2 = true from hA) (by rw [s2]; decide)
theorem par_swap {y1 y2 : PySem.Str} {px py pt pt2 : Pos} {kt k2 : Nat} {x1 x2 : Expr} {env : PySem.Env} (hk : env.blockKind = .function) (h1 : env.kindOf y1 = some .local) (h2 : env.kindOf y2 = some .local) (hl : (py.line == px.line) = true) (hne : (y2 == y1) = false) (s1 : starB x1 = false) (s2 : starB x2 = false)
    (f1 : (foldedForSure 8 x1 && foldedForSure 8 x2) = false) (f2 : (constantsAlone 8 x1 && constantsAlone 8 x2) = false) : swappedStores [.Tuple [.Name y1 px, .Name y2 py] kt pt] (.Tuple [x1, x2] k2 pt2) env = pure (some [y1, y2]) := by
  rw [swap_two hk h1 h2 hl hne s1 s2, if_neg, if_neg]
  · intro z; rw [z.1, z.2] at f2; cases f2
  · intro z; rw [z.1, z.2] at f1; cases f1
theorem fold_swap {y1 y2 : PySem.Str} {px py pt pt2 : Pos} {kt k2 : Nat} {x1 x2 : Expr} {env : PySem.Env} (hk : env.blockKind = .function) (h1 : env.kindOf y1 = some .local) (h2 : env.kindOf y2 = some .local) (hl : (py.line == px.line) = true) (hne : (y2 == y1) = false) (s1 : starB x1 = false) (s2 : starB x2 = false)
    (f1 : (foldedForSure 8 x1 && foldedForSure 8 x2) = true) : swappedStores [.Tuple [.Name y1 px, .Name y2 py] kt pt] (.Tuple [x1, x2] k2 pt2) env = pure none := by
  rw [swap_two hk h1 h2 hl hne s1 s2, if_pos (Bool.and_eq_true_iff.mp f1)]
section
variable {D : Wd} {G : Gc} {P : Pg} {cf : Nat → List U → Store → R U} {j n : Nat} {C : Cfg} {W : WX} {X : Cx}
theorem swap_three {y1 y2 y3 : PySem.Str} {px py pz pt pt2 : Pos} {kt k2 : Nat} {x1 x2 x3 : Expr} {env : PySem.Env} (hk : env.blockKind = .function) (h1 : env.kindOf y1 = some .local) (h2 : env.kindOf y2 = some .local) (h3 : env.kindOf y3 = some .local) (hl : (py.line == px.line) = true) (hl2 : (pz.line == px.line) = true) (n21 : (y2 == y1) = false) (n31 : (y3 == y1) = false) (n32 : (y3 == y2) = false) (s1 : starB x1 = false) (s2 : starB x2 = false) (s3 : starB x3 = false)
    (f1 : foldedForSure 8 x1 = false) (f2 : constantsAlone 8 x1 = false) : swappedStores [.Tuple [.Name y1 px, .Name y2 py, .Name y3 pz] kt pt] (.Tuple [x1, x2, x3] k2 pt2) env = pure (some [y1, y2, y3]) := by
  have hl : py.line = px.line := by simpa using hl
  have hl2 : pz.line = px.line := by simpa using hl2
  unfold swappedStores
  simp only [hk]
  simp [h1, h2, h3, hl, hl2, Expr.pos, List.eraseDups, List.eraseDupsBy, List.eraseDupsBy.loop, n21, n31, n32, f1, f2]
  intro hA
  rcases hA with hA | hA | hA
  · exact absurd (show starB x1 = true from hA) (by rw [s1]; decide)
  · exact absurd (show starB x2 = true from hA) (by rw [s2]; decide)
  · exact absurd (show starB x3 = true from hA) (by rw [s3]; decide)
theorem is_par3 {i k l : Nat} {a b c : E} {x1 x2 x3 : Expr} {y1 y2 y3 : PySem.Str} {px py pz pt pos pt2 : Pos} {kt k2 : Nat} (ok : CxOk D G P cf j C W X) (hr : PA X [x1, x2, x3] (tIs D P cf W (.cons a (.cons b (.cons c .nil)))))
    (hrule : ∀ (t : TA), PA X [x1, x2, x3] t → PS X (.Assign [.Tuple [.Name y1 px, .Name y2 py, .Name y3 pz] kt pt] (.Tuple [x1, x2, x3] k2 pt2) pos) (tPar3 i k l t)) : PS X (.Assign [.Tuple [.Name y1 px, .Name y2 py, .Name y3 pz] kt pt] (.Tuple [x1, x2, x3] k2 pt2) pos) (tS D P cf n W (.asg (.tp [i, k, l]) (.tup (.cons a (.cons b (.cons c .nil)))))) := by
  refine PS.imp (hrule _ hr) fun E σ H ⟨φ, env, S, g, e, q⟩ => ?_
  unfold ex ev at q
  refine ⟨φ, env, S, g, e, ?_⟩
  have q2 : SatO D ((evs P cf (.cons a (.cons b (.cons c .nil))) env S).out env fun us S => match us with
    | [u, w, z] => .nx (((env.set i (some u)).set k (some w)).set l (some z)) S
    | _ => .stuck) φ H E W := by
    cases h : evs P cf (.cons a (.cons b (.cons c .nil))) env S with
    | val us S1 =>
      rw [h] at q
      have q : SatO D ((if us.length ≤ LINE then R.val (U.tup us) S1 else .stuck).out env fun x S => match bindT (.tp [i, k, l]) x env with
        | some env1 => .nx env1 S
        | none => .stuck) φ H E W := q
      by_cases hz : us.length ≤ LINE
      · rw [if_pos hz] at q
        have q : SatO D (match bindT (.tp [i, k, l]) (.tup us) env with
          | some env1 => .nx env1 S1
          | none => .stuck) φ H E W := q
        match us, q with
        | [], q => exact q.elim
        | [_], q => exact q.elim
        | [_, _], q => exact q.elim
        | [u, w, z], q => exact q
        | u :: w :: z :: y :: us, q =>
          have hb : bindT (.tp [i, k, l]) (.tup (u :: w :: z :: y :: us)) env = none := by simp [bindT]
          rw [hb] at q
          exact q.elim
      · rw [if_neg hz] at q; exact q.elim
    | exc c d S1 => rw [h] at q; exact q
    | stuck => rw [h] at q; exact q
  refine SatO.bind e q2 fun us S1 φ1 H1 vs _ p1 t1 g1 r1 q1 => ?_
  cases r1 with
  | nil => exact q1.elim
  | cons a1 r1 => cases r1 with
    | nil => exact q1.elim
    | cons a2 r1 => cases r1 with
      | nil => exact q1.elim
      | cons a3 r1 => cases r1 with
        | nil => exact ⟨_, _, _, rfl, q1 φ1 H1 _ (List.prefix_refl _) (Tm.refl _ _) g1 ((((e.mono p1 t1).set a1 i).set a2 k).set a3 l)⟩
        | cons a4 r1 => exact q1.elim
end
section
variable (G : Gc)
def setcB (C : Cfg) (y : PySem.Str) (py : Pos) (scope : Scope) (pos : Pos) : Bool := decide (C.sc.names.lookup y = some .local) && (py.line == pos.line) && !(scope.names.any fun (n, k) => n == y && (k == .local || k == .cell))
mutual
def mS (C : Cfg) : St → Stmt → Bool
  | .asg t e, s => match s with
    | .Assign [tg] x pos => (match t, tg with
      | .nm i, .Name y py => locB C i y && (match e, x with
        | .comp own t it c e0, .ListComp elt [⟨tg, iter, ifs, as⟩] scope pos => if (py.line == pos.line && decide (C.sc.names.lookup y = some .local)) = true then
            (setcB C y py scope pos && C.calm && decide (as = 0) && !setB iter && blkC C.N C.sc scope (ownOf C own) && mT (C.blkd scope) t tg && (tgs t).all (fun i => own.contains i)) && (mI G C it tg iter && mEc G (C.blkd scope) c ifs && mE G (C.blkd scope) e0 elt)
          else mE G C (.comp own t it c e0) (.ListComp elt [⟨tg, iter, ifs, as⟩] scope pos)
        | e, x => !isComp x && mE G C e x)
      | .tp [i, k], .Tuple [.Name y1 px, .Name y2 py] _ _ => (match e, x with
        | .tup (.cons a (.cons b .nil)), .Tuple [x1, x2] _ _ => (C.calm && locB C i y1 && locB C k y2 && decide (C.sc.names.lookup y1 = some .local) && decide (C.sc.names.lookup y2 = some .local) && (py.line == px.line) && !(y2 == y1) && !starB x1 && !starB x2 && decide (i ≠ k)) && ((foldedForSure 8 x1 && foldedForSure 8 x2) || !(constantsAlone 8 x1 && constantsAlone 8 x2)) && (mE G C a x1 && mE G C b x2)
        | e, x => (!isComp x && !tupX x && mT C (.tp [i, k]) tg) && mE G C e x)
      | .tp [i, k, l], .Tuple [.Name y1 px, .Name y2 py, .Name y3 pz] _ _ => (match e, x with
        | .tup (.cons a (.cons b (.cons c .nil))), .Tuple [x1, x2, x3] _ _ => (C.calm && (locB C i y1 && locB C k y2 && locB C l y3) && (decide (C.sc.names.lookup y1 = some .local) && decide (C.sc.names.lookup y2 = some .local) && decide (C.sc.names.lookup y3 = some .local)) && ((py.line == px.line) && (pz.line == px.line)) && (!(y2 == y1) && !(y3 == y1) && !(y3 == y2)) && (!starB x1 && !starB x2 && !starB x3) && (decide (i ≠ k) && decide (i ≠ l) && decide (k ≠ l)) && (!foldedForSure 8 x1 && !constantsAlone 8 x1)) && (mE G C a x1 && (mE G C b x2 && mE G C c x3))
        | e, x => (!isComp x && !tupX x && mT C (.tp [i, k, l]) tg) && mE G C e x)
      | .tp ts, tg => (!isComp x && !tupX x && isTup tg && mT C (.tp ts) tg) && mE G C e x
      | _, _ => false)
    | _ => false
  | .setf o f e, s => match s with
    | .Assign [.Attribute y x p'] z pos => decide (G.nm[f]? = some x) && (mE G C o y && mE G C e z)
    | _ => false
  | .seti o i e, s => match s with
    | .Assign [.Subscript xo xi p] x pos => (C.calm && !sliceB xi) && (mE G C o xo && mE G C i xi && mE G C e x)
    | _ => false
  | .aug i o e, s => match s with
    | .AugAssign (.Name y py) op x pos => (locB C i y && (match o, op with
      | .add, .Add => true
      | .sub, .Sub => true
      | _, _ => false)) && mE G C e x
    | _ => false
  | .augf o f p e, s => match s with
    | .AugAssign (.Attribute y x p') op z pos => (decide (G.nm[f]? = some x) && (match p, op with
      | .add, .Add => true
      | .sub, .Sub => true
      | _, _ => false)) && (mE G C o y && mE G C e z)
    | _ => false
  | .exp e, s => match s with
    | .Expr x pos => !isComp x && mE G C e x
    | _ => false
  | .ret e, s => match s with
    | .Return (some x) pos => mE G C e x
    | _ => false
  | .retN, s => match s with
    | .Return none pos => true
    | _ => false
  | .ifS c a b, s => match s with
    | .If x as bs pos => mE G C c x && (mSs C a as && mSs C b bs)
    | _ => false
  | .whl c b, s => match s with
    | .While x bs [] pos => mE G C c x && mSs C b bs
    | _ => false
  | .for_ t it b, s => match s with
    | .For tg iter bs [] pos => (C.calm && mT C t tg && !setB iter) && (mI G C it tg iter && mSs C b bs)
    | _ => false
  | .brk, s => match s with
    | .Break _ => true
    | _ => false
  | .cnt, s => match s with
    | .Continue _ => true
    | _ => false
  | .pass, s => match s with
    | .Pass _ => true
    | _ => false
  | .raise c es, s => match es, s with
    | .nil, .Raise (some (.Call (.Name x _) [.Constant (.str _) _ _] [] _)) none _ => C.calm && decide (G.cnm[c]? = some x) && (G.exs.lookup c).isSome && gloB C x
    | _, _ => false
  | .tryM b hs, s => match s with
    | .Try body (h₀ :: hds) [] [] _ => (C.top && hsIn G hs) && (mSs C b body && mHs C hs (h₀ :: hds))
    | _ => false
  | .tryAs b c i h, _ => false
  | .del o i, s => match s with
    | .Delete [.Subscript xo xi p] pos => mE G C o xo && mE G C i xi
    | _ => false
  | .stk, _ => true
  | .kill _, _ => false
def mSs (C : Cfg) : Sts → List Stmt → Bool
  | .nil, xs => xs.isEmpty
  | .cons s r, xs => match s with
    | .kill _ => mSs C r xs
    | s => match xs with
      | x :: xs => mS C s x && mSs C r xs
      | [] => false
def mHs (C : Cfg) : Hs → List ExceptHandler → Bool
  | .nil, xs => xs.isEmpty
  | .cons c h r, xs => match xs with
    | .ExceptHandler (some (.Name x _)) none (b₀ :: suite) _ :: xs => (decide (G.cnm[c]? = some x) && gloB C x) && (mSs C.hot h (b₀ :: suite) && mHs C r xs)
    | _ => false
end
end
section
variable {D : Wd} {G : Gc} {P : Pg} {cf : Nat → List U → Store → R U} {j n : Nat}
theorem kind_fn {X : Cx} (h : X.env.scope.kind = .function) : X.env.blockKind = .function := by
  unfold Env.blockKind
  rw [h]
  rfl
mutual
theorem okS : ∀ (s : St) (C : Cfg) (W : WX) (X : Cx) (x : Stmt), CxOk D G P cf j C W X → C.sc.kind = .function → mS G C s x = true → PS X x (tS D P cf n W s)
  | .asg t e => fun C W X s ok hk h => by
    unfold mS at h
    split at h
    · rename_i tg x pos
      split at h
      · rename_i i y py
        obtain ⟨h1, h2⟩ := b2 h
        split at h2
        · rename_i own t it c e0 elt tg iter ifs as scope pos
          split at h2
          · rename_i hline
            obtain ⟨h2, h3⟩ := b2 h2
            obtain ⟨h2, s1⟩ := b2 h2
            obtain ⟨h2, s2⟩ := b2 h2
            obtain ⟨h2, s3⟩ := b2 h2
            obtain ⟨h2, s4⟩ := b2 h2
            obtain ⟨h2, s5⟩ := b2 h2
            obtain ⟨h2, hc⟩ := b2 h2
            obtain ⟨h3, h4⟩ := b2 h3
            obtain ⟨h3, h5⟩ := b2 h3
            unfold setcB at h2
            obtain ⟨h2, q1⟩ := b2 h2
            obtain ⟨q3, q2⟩ := b2 h2
            have e1 := of_decide_eq_true s5
            subst e1
            have q3 := of_decide_eq_true q3
            obtain ⟨l1, l2, l3⟩ := loc_of ok h1
            have hb : BlkOk X.N X.env.scope scope (ownOf C own) := by rw [ok.N, ok.sc]; exact blkOk_by s3
            have hy : X.env.scope.names.lookup y = some .local := by rw [ok.sc]; exact q3
            have hsw := sw_true (elt := elt) (gs := [⟨tg, iter, ifs, 0⟩]) (scope := scope) (pos := pos) (py := py) (y := y) (l := (by assumption : Pos).line) (env := X.env) (by rw [ok.sc]; exact hk) hy q2 (nb q1)
            refine is_setC ok h1 q3 hsw (fun tq tt te a b c => ps_setLc (ok.calm hc) (by rw [ok.N]; exact ok.nd) l1 hy hsw a hb (fun s H Cc cl fp => mT_ok (ok.blkd s H scope cl Cc fp) s2) b c (fold_set (nb s4))) (fun i hi => by
                have := List.all_eq_true.mp s1 i hi
                simpa using this) (okI it C W X _ _ ok h3) (fun s H Cc cl fp => okEc c (C.blkd scope) WF _ _ (ok.blkd s H scope cl Cc fp) h5) (fun s H Cc cl fp => (okE e0 (C.blkd scope) WF _ _ (ok.blkd s H scope cl Cc fp) h4).1)
          · rename_i hline
            by_cases hlc : C.sc.names.lookup y = some .local
            · exact is_setL ok (okE _ C W X _ ok h2).1 h1 (by
                rw [decide_eq_true hlc, Bool.and_true] at hline
                simpa [Expr.pos] using hline)
            · exact is_setK ok (okE _ C W X _ ok h2).1 h1 hlc
        · obtain ⟨h2, h3⟩ := b2 h2
          exact is_set ok (okE _ C W X _ ok h3).1 h1 (nb h2)
      · rename_i i k y1 px y2 py _ _
        split at h
        · rename_i a b x1 x2 _ _
          obtain ⟨h1, h2⟩ := b2 h
          obtain ⟨h1, s0⟩ := b2 h1
          obtain ⟨h1, s1⟩ := b2 h1
          obtain ⟨h1, s2⟩ := b2 h1
          obtain ⟨h1, s3⟩ := b2 h1
          obtain ⟨h1, s4⟩ := b2 h1
          obtain ⟨h1, s5⟩ := b2 h1
          obtain ⟨h1, s6⟩ := b2 h1
          obtain ⟨h1, s7⟩ := b2 h1
          obtain ⟨h1, s8⟩ := b2 h1
          obtain ⟨hc, s9⟩ := b2 h1
          obtain ⟨h2, h3⟩ := b2 h2
          obtain ⟨l1, _, l1s⟩ := loc_of ok s8
          obtain ⟨l9, _, l9s⟩ := loc_of ok s9
          have k1 : X.env.scope.names.lookup y1 = some .local := by rw [ok.sc]; exact of_decide_eq_true s7
          have k2 : X.env.scope.names.lookup y2 = some .local := by rw [ok.sc]; exact of_decide_eq_true s6
          have kf := kind_fn (X := X) (by rw [ok.sc]; exact hk)
          have hargs := ia_cons (okE a C W X _ ok h2).1 (ia_cons (okE b C W X _ ok h3).1 ia_nil (nb s2)) (nb s3)
          by_cases hf : (foldedForSure 8 x1 && foldedForSure 8 x2) = true
          · refine is_asg ok.K (ie_tup hargs) (mT_ok ok ?_) rfl (fold_swap kf k1 k2 s5 (nb s4) (nb s3) (nb s2) hf) rfl
            show (C.calm && (locB C i y1 && (locB C k y2 && true))) = true
            rw [hc, s9, s8]
            rfl
          · have hf2 : (foldedForSure 8 x1 && foldedForSure 8 x2) = false := by simpa using hf
            rw [hf2, Bool.false_or] at s0
            exact is_par ok hc hargs s9 s8 (of_decide_eq_true s1) fun t ht => ps_par (ok.calm hc) (by rw [ok.N]; exact ok.nd) l9 l1 (of_decide_eq_true s1) k1 k2 ht (par_swap kf k1 k2 s5 (nb s4) (nb s3) (nb s2) hf2 (nb s0))
        · obtain ⟨h1, h2⟩ := b2 h
          obtain ⟨h1, s1⟩ := b2 h1
          obtain ⟨h1, s2⟩ := b2 h1
          exact is_asg ok.K (okE _ C W X _ ok h2).1 (mT_ok ok s1) (nb h1) (no_swapS (nb s2)) rfl
      · rename_i i k l y1 px y2 py y3 pz _ _
        split at h
        · rename_i a b c x1 x2 x3 _ _
          obtain ⟨h1, h2⟩ := b2 h
          obtain ⟨h1, f0⟩ := b2 h1
          obtain ⟨f1, f2⟩ := b2 f0
          obtain ⟨h1, n0⟩ := b2 h1
          obtain ⟨n0, n3⟩ := b2 n0
          obtain ⟨n1, n2⟩ := b2 n0
          obtain ⟨h1, t0⟩ := b2 h1
          obtain ⟨t0, t3⟩ := b2 t0
          obtain ⟨t1, t2⟩ := b2 t0
          obtain ⟨h1, d0⟩ := b2 h1
          obtain ⟨d0, d3⟩ := b2 d0
          obtain ⟨d1, d2⟩ := b2 d0
          obtain ⟨h1, e0⟩ := b2 h1
          obtain ⟨e1, e2⟩ := b2 e0
          obtain ⟨h1, u0⟩ := b2 h1
          obtain ⟨u0, u3⟩ := b2 u0
          obtain ⟨u1, u2⟩ := b2 u0
          obtain ⟨hc, v0⟩ := b2 h1
          obtain ⟨v0, v3⟩ := b2 v0
          obtain ⟨v1, v2⟩ := b2 v0
          obtain ⟨g1, g0⟩ := b2 h2
          obtain ⟨g2, g3⟩ := b2 g0
          obtain ⟨l1, _, _⟩ := loc_of ok v1
          obtain ⟨l2, _, _⟩ := loc_of ok v2
          obtain ⟨l3, _, _⟩ := loc_of ok v3
          have k1 : X.env.scope.names.lookup y1 = some .local := by rw [ok.sc]; exact of_decide_eq_true u1
          have k2 : X.env.scope.names.lookup y2 = some .local := by rw [ok.sc]; exact of_decide_eq_true u2
          have k3 : X.env.scope.names.lookup y3 = some .local := by rw [ok.sc]; exact of_decide_eq_true u3
          have kf := kind_fn (X := X) (by rw [ok.sc]; exact hk)
          have hargs := ia_cons (okE a C W X _ ok g1).1 (ia_cons (okE b C W X _ ok g2).1 (ia_cons (okE c C W X _ ok g3).1 ia_nil (nb t3)) (nb t2)) (nb t1)
          exact is_par3 ok hargs fun t ht => ps_par3 (ok.calm hc) (by rw [ok.N]; exact ok.nd) l1 l2 l3 (of_decide_eq_true n1) (of_decide_eq_true n2) (of_decide_eq_true n3) k1 k2 k3 ht (swap_three kf k1 k2 k3 e1 e2 (nb d1) (nb d2) (nb d3) (nb t1) (nb t2) (nb t3) (nb f1) (nb f2))
        · obtain ⟨h1, h2⟩ := b2 h
          obtain ⟨h1, s1⟩ := b2 h1
          obtain ⟨h1, s2⟩ := b2 h1
          exact is_asg ok.K (okE _ C W X _ ok h2).1 (mT_ok ok s1) (nb h1) (no_swapS (nb s2)) rfl
      · obtain ⟨h1, h2⟩ := b2 h
        obtain ⟨h1, s1⟩ := b2 h1
        obtain ⟨h1, s2⟩ := b2 h1
        obtain ⟨h1, s3⟩ := b2 h1
        refine is_asg ok.K (okE _ C W X _ ok h2).1 (mT_ok ok s1) (nb h1) (no_swapS (nb s3)) ?_
        cases tg <;> first | (cases s2; done) | rfl
      · cases h
    · cases h
  | .setf o f e => fun C W X x ok hk h => by
    unfold mS at h
    split at h
    · rename_i y x0 p' z pos
      obtain ⟨h1, h2⟩ := b2 h
      obtain ⟨h2, h3⟩ := b2 h2
      exact is_setf ok (of_decide_eq_true h1) (okE o C W X _ ok h2).1 (okE e C W X _ ok h3).1 (by cases z <;> rfl)
    · cases h
  | .seti o i e => fun C W X x ok hk h => by
    unfold mS at h
    split at h
    · obtain ⟨h1, h2⟩ := b2 h
      obtain ⟨hc, h5⟩ := b2 h1
      obtain ⟨h2, h3⟩ := b2 h2
      obtain ⟨h2, h4⟩ := b2 h2
      exact is_seti (by have := ok.units hc; omega) (okE o C W X _ ok h2).1 (okE i C W X _ ok h4).1 (okE e C W X _ ok h3).1 (nb h5) no_swapN
    · cases h
  | .aug i o e => fun C W X x ok hk h => by
    unfold mS at h
    split at h
    · obtain ⟨h1, h2⟩ := b2 h
      obtain ⟨hl, h3⟩ := b2 h1
      split at h3
      · exact is_augA ok (okE e C W X _ ok h2).1 hl
      · exact is_augS ok (okE e C W X _ ok h2).1 hl
      · cases h3
    · cases h
  | .augf o f p e => fun C W X x ok hk h => by
    unfold mS at h
    split at h
    · obtain ⟨h1, h2⟩ := b2 h
      obtain ⟨k1, k4⟩ := b2 h1
      obtain ⟨h2, h3⟩ := b2 h2
      clear h h1
      split at k4
      · exact is_augf ok (.inl ⟨rfl, rfl⟩) (of_decide_eq_true k1) (okE o C W X _ ok h2).1 (okE e C W X _ ok h3).1
      · exact is_augf ok (.inr ⟨rfl, rfl⟩) (of_decide_eq_true k1) (okE o C W X _ ok h2).1 (okE e C W X _ ok h3).1
      · cases k4
    · cases h
  | .exp e => fun C W X x ok hk h => by
    unfold mS at h
    split at h
    · obtain ⟨h1, h2⟩ := b2 h
      exact is_exp (okE e C W X _ ok h2).1 (nb h1)
    · cases h
  | .ret e => fun C W X x ok hk h => by
    unfold mS at h
    split at h
    · exact is_ret (okE e C W X _ ok h).1
    · cases h
  | .retN => fun C W X x ok hk h => by
    unfold mS at h
    split at h
    · exact is_retN
    · cases h
  | .ifS c a b => fun C W X x ok hk h => by
    unfold mS at h
    split at h
    · obtain ⟨h1, h2⟩ := b2 h
      obtain ⟨h2, h3⟩ := b2 h2
      exact is_if (okE c C W X _ ok h1).2.1 (okSs a C W X _ ok hk h2) (okSs b C W X _ ok hk h3)
    · cases h
  | .whl c b => fun C W X x ok hk h => by
    unfold mS at h
    split at h
    · obtain ⟨h1, h2⟩ := b2 h
      exact is_while ok (okE c C W X _ ok h1).2.1 (okSs b C W X _ ok hk h2)
    · cases h
  | .for_ t it b => fun C W X x ok hk h => by
    unfold mS at h
    split at h
    · obtain ⟨h1, h2⟩ := b2 h
      obtain ⟨h1, s1⟩ := b2 h1
      obtain ⟨h1, s2⟩ := b2 h1
      obtain ⟨h2, h3⟩ := b2 h2
      exact is_for ok h1 (okI it C W X _ _ ok h2) (mT_ok ok s2) (okSs b C W X _ ok hk h3) (fold_set (nb s1))
    · cases h
  | .brk => fun C W X x ok hk h => by
    unfold mS at h
    split at h
    · exact is_brk
    · cases h
  | .cnt => fun C W X x ok hk h => by
    unfold mS at h
    split at h
    · exact is_cnt
    · cases h
  | .pass => fun C W X x ok hk h => by
    unfold mS at h
    split at h
    · exact is_pass
    · cases h
  | .raise c es => fun C W X x ok hk h => by
    unfold mS at h
    split at h
    · obtain ⟨h1, h2⟩ := b2 h
      obtain ⟨h1, h3⟩ := b2 h1
      obtain ⟨hc, h4⟩ := b2 h1
      obtain ⟨as, ha⟩ := Option.isSome_iff_exists.mp h3
      exact is_raise ok hc (of_decide_eq_true h4) ha h2
    · cases h
  | .tryM b hs => fun C W X x ok hk h => by
    unfold mS at h
    split at h
    · obtain ⟨h1, h2⟩ := b2 h
      obtain ⟨h1, h3⟩ := b2 h1
      obtain ⟨h2, h4⟩ := b2 h2
      exact is_try ok h1 h3 (fun W' pn xe ok' => okSs b C W' _ _ ok' hk h2) (okHs hs C W X _ ok hk h3 h4)
    · cases h
  | .tryAs b c i hh => fun C W X x ok hk h => by unfold mS at h; cases h
  | .del o i => fun C W X x ok hk h => by
    unfold mS at h
    split at h
    · obtain ⟨h1, h2⟩ := b2 h
      exact is_del (okE o C W X _ ok h1).1 (okE i C W X _ ok h2).1
    · cases h
  | .stk => fun C W X x ok hk h => is_stk
  | .kill _ => fun C W X x ok hk h => by unfold mS at h; cases h
theorem okSs : ∀ (s : Sts) (C : Cfg) (W : WX) (X : Cx) (x : List Stmt), CxOk D G P cf j C W X → C.sc.kind = .function → mSs G C s x = true → PSs X x (tSs D P cf n W s)
  | .nil => fun C W X x ok hk h => by
    unfold mSs at h
    cases x with
    | nil => exact iss_nil
    | cons x xs => cases h
  | .cons s r => fun C W X x ok hk h => by
    unfold mSs at h
    split at h
    · exact iss_kill (okSs r C W X _ ok hk h)
    · split at h
      · obtain ⟨h1, h2⟩ := b2 h
        exact iss_cons (okS s C W X _ ok hk h1) (okSs r C W X _ ok hk h2)
      · cases h
theorem okHs : ∀ (hs : Hs) (C : Cfg) (W : WX) (X : Cx) (x : List ExceptHandler), CxOk D G P cf j C W X → C.sc.kind = .function → hsIn G hs = true → mHs G C hs x = true → HdsOk X x (hdL D P cf n hs)
  | .nil => fun C W X x ok hk hi h => by
    unfold mHs at h
    cases x with
    | nil => exact .nil
    | cons x xs => cases h
  | .cons c hh r => fun C W X x ok hk hi h => by
    unfold mHs at h
    unfold hsIn at hi
    obtain ⟨hi1, hi2⟩ := b2 hi
    obtain ⟨as, ha⟩ := Option.isSome_iff_exists.mp hi1
    split at h
    · obtain ⟨h1, h2⟩ := b2 h
      obtain ⟨h1, h3⟩ := b2 h1
      obtain ⟨h2, h4⟩ := b2 h2
      obtain ⟨hg, hd⟩ := glo_of ok h3
      exact .cons ⟨hg, hd, .inl (ok.exc c _ as (of_decide_eq_true h1) ha).1⟩ (fun a oe cls d pn _ _ => okSs hh C.hot WF _ _ (ok.suite a _) hk h2) (okHs r C W X _ ok hk hi2 h4)
    · cases h
end
end
end PyI
set_option Elab.async false
set_option linter.all false
set_option autoImplicit false
set_option maxRecDepth 100000
set_option maxHeartbeats 4000000
/-! Defs and the law. -/
namespace PyI
open PySem L2
/-- a def: where it stands, its names by number, its parameters, its body in the small machine -/
structure DefI where
  d : He.DefD
  N : List PySem.Str
  ps : List PySem.Str
  fn : Fn
  prop : Bool := false
def fsB (N ps : List PySem.Str) (sc : Scope) : Bool := decide (sc.kind = .function) && !sc.isCoroutine && !sc.isGenerator && decide N.Nodup && decide (N.take ps.length = ps) &&
  (ps.all fun x => decide (sc.names.lookup x = some .local) || decide (sc.names.lookup x = some .cell)) && (sc.names.all fun y => decide (y.2 ≠ .free))
theorem fs_of {N ps : List PySem.Str} {sc : Scope} (h : fsB N ps sc = true) : FnScope N ps sc := by
  unfold fsB at h
  simp only [Bool.and_eq_true, decide_eq_true_eq, Bool.not_eq_true', List.all_eq_true, Bool.or_eq_true] at h
  obtain ⟨⟨⟨⟨⟨⟨h1, h2⟩, h3⟩, h4⟩, h5⟩, h6⟩, h7⟩ := h
  exact ⟨h1, h2, h3, h4, h5, h6, h7⟩
def cfgOf (t : DefI) : Cfg := { N := t.N, sc := t.d.scope, st := fun _ => true, calm := true, top := true }
def defB (G : Gc) (t : DefI) : Bool := fsB t.N t.ps t.d.scope && decide (t.fn.np = t.ps.length) && decide (t.fn.nl = t.N.length) && t.d.dfl.isEmpty && t.d.kwd.isEmpty && mSs G (cfgOf t) t.fn.body t.d.body
/-- a getter that raises nothing: it hands back a field, or a new list of what is in it -/
def nxE : E → Bool
  | .fld (.var _) _ => true
  | .bi .list (.cons (.fld (.var _) _) .nil) => true
  | _ => false
def nxB (t : Fn) : Bool := match t.body with
  | .cons (.ret e) .nil => nxE e
  | _ => false
theorem nx_fld {P : Pg} {cf : Nat → List U → Store → R U} {i f : Nat} (env : Env) (S : Store) : (ev P cf (.fld (.var i) f) env S).exB = false := by
  unfold ev
  refine R.exB_bind ?_ fun u S => ?_
  · unfold ev
    split <;> rfl
  · split <;> first | rfl | skip
    split <;> first | rfl | skip
    rename_i fs _
    show (ofO S (List.lookup f fs)).exB = false
    cases List.lookup f fs <;> rfl
theorem nx_list (us : List U) (S : Store) : (biU .list us S).exB = false := by
  match us with
  | [] => rfl
  | x :: y :: us => rfl
  | [x] =>
    show (match itemsU S x with
      | some us => newC (.lst us) S
      | none => match dctU S x with
        | some kvs => newC (.lst (kvs.map fun (p : Key × U) => keyO p.1)) S
        | none => R.stuck).exB = false
    split
    · rfl
    · split <;> rfl
theorem nx_ev {P : Pg} {cf : Nat → List U → Store → R U} {e : E} (h : nxE e = true) (env : Env) (S : Store) : (ev P cf e env S).exB = false := by
  unfold nxE at h
  split at h
  · exact nx_fld env S
  · unfold ev evs evs
    refine R.exB_bind (R.exB_bind (nx_fld env S) fun u S => rfl) fun us S => nx_list us S
  · cases h
theorem nx_call {P : Pg} {n k f : Nat} {t : Fn} (hf : P.fns[f]? = some t) (h : nxB t = true) (us : List U) (S : Store) : (callN P n k f us S).exB = false := by
  cases k with
  | zero => rfl
  | succ k =>
    unfold callN
    rw [hf]
    dsimp only
    split
    · unfold nxB at h
      split at h
      · rename_i e he
        rw [he]
        have q := nx_ev (P := P) (cf := callN P n k) h (us.map some ++ List.replicate (t.nl - t.np) none) S
        unfold exs ex
        cases hh : ev P (callN P n k) e (us.map some ++ List.replicate (t.nl - t.np) none) S with
        | val u S2 => rfl
        | exc c d S2 => rw [hh] at q; cases q
        | stuck => rfl
      · cases h
    · rfl
def BindsAll : List DefI → Prop
  | [] => True
  | t :: ts => (∀ (kV doc pm : Value) (an : Option Addr) (cdv ct : Value) (us : List Value), us.length = t.ps.length → bindArgs (PySem.W.fnOf t.d.name t.d.qual t.d.params t.d.body t.d.scope .none kV doc pm an cdv ct) ⟨us, []⟩ = pure (t.ps.zip us)) ∧ BindsAll ts
theorem BindsAll.at : ∀ {T : List DefI} {f : Nat} {t : DefI}, BindsAll T → T[f]? = some t → ∀ (kV doc pm : Value) (an : Option Addr) (cdv ct : Value) (us : List Value), us.length = t.ps.length → bindArgs (PySem.W.fnOf t.d.name t.d.qual t.d.params t.d.body t.d.scope .none kV doc pm an cdv ct) ⟨us, []⟩ = pure (t.ps.zip us)
  | [], f, t, _, h => by simp at h
  | x :: ts, 0, t, h, e => by
    simp at e; subst e; exact h.1
  | x :: ts, f + 1, t, h, e => BindsAll.at h.2 (by simpa using e)
/-- what the head has told -/
structure Hd (D : Wd) (G : Gc) (P : Pg) (T : List DefI) (mg : PySem.Str → Option Value) : Prop where
  funs : ∀ (f : Nat) (t : DefI), T[f]? = some t → ∃ fd, FunD D.K t.d.name t.d.qual t.d.params t.d.body t.d.scope [] [] (D.fA f) fd
  glob : ∀ (f : Nat) (x : PySem.Str), G.fnm[f]? = some (some x) → mg x = some (.ref (D.fA f)) ∧ ∃ t, T[f]? = some t
  chk : ∀ (f : Nat) (t : DefI), T[f]? = some t → defB G t = true
  bnd : BindsAll T
  fns : P.fns = T.map (·.fn)
  fr : ∀ x ∈ G.free, mg x = none
  gl : ∀ (g : Nat) (x : PySem.Str) (u : U), G.gnm[g]? = some x → P.glo[g]? = some u → ∃ val, mg x = some val ∧ ∀ φ H, ∃ v, RelU D φ H u v ∧ RelV v val
  exs : P.excs = G.exs
  noi : ∀ c as, G.exs.lookup c = some as → P.inits.lookup c = none
  exc : ∀ (c : Nat) (x : PySem.Str) (as : List Nat), G.cnm[c]? = some x → G.exs.lookup c = some as → mg x = some (.ref (D.cA c)) ∧ PySem.W.excIn D.K (D.cA c) [.type "ValueError", .type "Exception", .type "BaseException", .type "object"] "ValueError.__new__" = true ∧ PySem.W.keepIn D.K (.ref (D.cA c)) = true ∧ PySem.W.subIn D.K (.ref (D.cA c)) (.type "BaseException") = some true ∧ PySem.W.typeIn D.K (.ref (D.cA c)) = some (.type "type")
  exm : ∀ (c c' : Nat) (as as' : List Nat), G.exs.lookup c = some as → G.exs.lookup c' = some as' → PySem.W.exmOne D.K (.ref (D.cA c)) (.ref (D.cA c')) = some (decide (c' ∈ as))
  dnm : D.nm = G.nm
  mne : ∀ m ∈ G.mnm, ∃ c f, P.meths.lookup (c, m) = some f
  ine : ∀ c ∈ G.ini, ∃ f, P.inits.lookup c = some f
  nmd : D.nm.Nodup
  cls : ∀ c ∈ D.cl, Cls D.K (D.cA c)
  flf : ∀ (c f : Nat) (x : PySem.Str), (c, f) ∈ P.flds → D.nm[f]? = some x → NoAttr D.K (D.cA c) x
  mth : ∀ (c m f : Nat) (x : PySem.Str), P.meths.lookup (c, m) = some f → D.nm[m]? = some x → G.props.lookup (c, m) = none → c ∈ D.cl ∧ Meth D.K (D.cA c) x (D.fA f) ∧ ∃ t, T[f]? = some t
  prp : ∀ (c m f : Nat) (x : PySem.Str), P.meths.lookup (c, m) = some f → D.nm[m]? = some x → m ∈ G.pnm → c ∈ D.cl ∧ (∃ p, PropOf D.K (D.cA c) x p (D.fA f)) ∧ ∃ t, T[f]? = some t ∧ nxB t.fn = true
  ini : ∀ (c f : Nat) (x : PySem.Str), P.inits.lookup c = some f → G.cnm[c]? = some x → c ∈ D.cl ∧ Mk D.K (D.cA c) (D.fA f) ∧ mg x = some (.ref (D.cA c)) ∧ ∃ t, T[f]? = some t
section
variable {D : Wd} {G : Gc} {P : Pg} {T : List DefI} {mg : PySem.Str → Option Value} {prog : Program} {w : World} {base : Heap} {n : Nat}
theorem fin_sat {o : Out} {φ : List Addr} {H : Hp} {Q : VK} {E : XK} (h : SatR D (fin o) (RelU D) φ H Q E) : SatO D o φ H { nx := fun _ H' => Q .non H', rt := Q } (fun c d _ H => E c d H) := by
  cases o with
  | nx env S => exact fun φ1 H1 σ1 p t g e => h φ1 H1 .non p t g .non
  | rt u S => exact h
  | bk env S => exact h.elim
  | ct env S => exact h.elim
  | exc c d env S => exact fun φ1 H1 σ1 dv p t g e r => h φ1 H1 dv p t g r
  | stuck => exact h.elim
theorem rel_start {φ : List Addr} {H : Hp} {us : List U} {vs : List V} {N : List PySem.Str} {np nl : Nat} (r : RelUs D φ H us vs) (hn : us.length = np) (hl : nl = N.length) : RelE D φ H (us.map some ++ List.replicate (nl - np) none) (L2.start N vs) := by
  unfold L2.start
  refine ⟨?_, fun i u h => ?_⟩
  · simp [r.len, ← hn, hl]
  · by_cases q : i < us.length
    · rw [List.getElem?_append_left (by simpa using q)] at h
      rw [List.getElem?_map] at h
      obtain ⟨u', h1, h2⟩ := Option.map_eq_some_iff.mp h
      cases h2
      obtain ⟨v, h3, h4⟩ := r.at h1
      refine ⟨v, ?_, h4⟩
      rw [List.getElem?_append_left (by simpa [← r.len] using q), List.getElem?_map, h3]
      rfl
    · rw [List.getElem?_append_right (by simpa using q)] at h
      have := (List.getElem?_eq_some_iff.mp h).2
      simp at this
theorem fn_level (hd : Hd D G P T mg) : ∀ (k f : Nat) (t : DefI), T[f]? = some t → ∃ fd, FnOk prog w D.K mg base (L2.CX prog w) (2 * k) (D.fA f) fd t.ps (spI D (callN P n k) f) ∧ PySem.W.keepIn D.K (.ref (D.fA f)) = true ∧ Binds D.K fd t.ps [] ∧
    FunD D.K t.d.name t.d.qual t.d.params t.d.body t.d.scope [] [] (D.fA f) fd := by
  intro k
  induction k with
  | zero =>
    intro f t ht
    obtain ⟨fd, F⟩ := hd.funs f t ht
    refine ⟨fd, ⟨fun vs H Q E h => ?_, fun A outer s H args us vs Q E _ _ _ _ h => ?_⟩, F.kp, FunD.bindsN F (hd.bnd.at ht), F⟩
    · obtain ⟨φ, S, us, _, _, q⟩ := h; exact q.elim
    · obtain ⟨φ, S, us, _, _, q⟩ := h; exact q.elim
  | succ k ih =>
    intro f t ht
    obtain ⟨fd, F⟩ := hd.funs f t ht
    have ck := hd.chk f t ht
    unfold defB at ck
    simp only [Bool.and_eq_true, decide_eq_true_eq] at ck
    obtain ⟨⟨⟨⟨⟨c1, c2⟩, c3⟩, c4⟩, c5⟩, c6⟩ := ck
    have hf : P.fns[f]? = some t.fn := by rw [hd.fns, List.getElem?_map, ht]; rfl
    have sc := fs_of c1
    refine ⟨fd, FunD.ok (k := 2 * k + 1) F sc (fun vs H Q E h => ?_) (fun cdv A outer s H vs Q E hr h => ?_), F.kp, FunD.bindsN F (hd.bnd.at ht), F⟩
    · obtain ⟨φ, S, us, g, r, q⟩ := h
      unfold callN at q
      rw [hf] at q
      by_cases hl : us.length = t.fn.np
      · rw [← r.len, hl, c2]
      · dsimp only at q
        rw [if_neg hl] at q; exact q.elim
    · obtain ⟨φ, S, us, g, r, q⟩ := h
      unfold callN at q
      rw [hf] at q
      dsimp only at q
      by_cases hl : us.length = t.fn.np
      · rw [if_pos hl] at q
        have ok : CxOk D G P (callN P n k) (2 * k) (cfgOf t) (fun c d _ H => E c d H) (cxOf (L2.CX prog w) prog w D.K mg base t.N t.d.qual t.d.scope (D.fA f) cdv A outer s H E) := {
          K := rfl
          N := rfl
          nd := sc.nd
          sc := rfl
          calm := fun _ => rfl
          room := fun _ => hr
          tk := takes_of rfl rfl rfl rfl
          po := passes_of rfl
          fnS := fun _ _ => rfl
          fr := hd.fr
          gl := hd.gl
          top := fun _ => ⟨rfl, rfl⟩
          exs := hd.exs
          noi := hd.noi
          exc := fun c x as hx ha => by
            obtain ⟨a1, a2, a3, a4, a5⟩ := hd.exc c x as hx ha
            exact ⟨a1, a2, a3, raises_own a4 a5⟩
          exm := hd.exm
          dnm := hd.dnm
          mne := hd.mne
          ine := hd.ine
          nmd := hd.nmd
          cls := hd.cls
          flf := hd.flf
          mth := fun c m f' x h1 h2 h3 => by
            obtain ⟨a1, a2, t', a3⟩ := hd.mth c m f' x h1 h2 h3
            obtain ⟨fd', a, b, cc, _⟩ := ih f' t' a3
            exact ⟨a1, a2, fd', t'.ps, a, cc⟩
          prp := fun c m f' x h1 h2 h3 => by
            obtain ⟨a1, a2, t', a3, a4⟩ := hd.prp c m f' x h1 h2 h3
            obtain ⟨fd', a, b, cc, _⟩ := ih f' t' a3
            exact ⟨a1, a2, nx_call (by rw [hd.fns, List.getElem?_map, a3]; rfl) a4, fd', t'.ps, a, cc⟩
          ini := fun c f' x h1 h2 => by
            obtain ⟨a1, a2, a3, t', a4⟩ := hd.ini c f' x h1 h2
            obtain ⟨fd', a, b, cc, _⟩ := ih f' t' a4
            exact ⟨a1, a2, a3, fd', t'.ps, a, cc⟩
          fns := fun f' x hx => by
            obtain ⟨h1, t', h2⟩ := hd.glob f' x hx
            obtain ⟨fd', a, b, c, _⟩ := ih f' t' h2
            exact ⟨fd', t'.ps, a, h1, b, c⟩ }
        exact ⟨_, okSs t.fn.body (cfgOf t) _ _ _ ok sc.kind c6, φ, _, S, g, rel_start r hl c3, fin_sat q⟩
      · rw [if_neg hl] at q; exact q.elim
theorem FnOk.cx {CX CX' : CXT} {k : Nat} {f : Addr} {fd : FuncData} {ps : List PySem.Str} {sp : Sp} {K : PySem.W.Frag} (F : FnOk prog w K mg base CX k f fd ps sp) (h : ∀ o H s E u s', CX o H s E u s' → CX' o H s E u s') : FnOk prog w K mg base CX' k f fd ps sp :=
  ⟨F.len, fun A outer s H args us vs Q E a b c d e => codeAny_mono (F.run A outer s H args us vs Q E a b c d e) fun r s' q => by
    cases r with
    | error u => exact h _ _ _ _ _ _ q
    | ok fl => cases fl <;> exact q⟩
/-- the law's promise at a script -/
theorem law_sp {f k : Nat} {m : Nat} (hlaw : ∀ ns : List Int, ns.length ≤ m → ∃ S1, callN P n k f [.ref 0] [.fz (ns.map .int)] = .val (.bl true) S1) (H : Hp) (a : Addr) (ns : List Int) (hn : ns.length ≤ m) (hO : Only H) (hS : SqL D.K H a (ns.map V.int)) :
    spI D (callN P n k) f [.ref a] H (fun v _ => v = .bl true) fun _ _ _ => False := by
  obtain ⟨S1, h1⟩ := hlaw ns hn
  refine ⟨[a], [.fz (ns.map .int)], [.ref 0], ⟨rfl, fun l c b e f => ?_, fun l k c d b e1 e2 t1 t2 _ _ => ?_⟩, .cons (.ref rfl) .nil, ?_⟩
  · cases l with
    | zero =>
      simp at e f
      subst e f
      refine ⟨ns.map V.int, ?_, RelUs.ofInts ns⟩
      rcases hS with (h | ⟨o, h⟩) | h
      · rcases hO a with q | ⟨o, xs, q⟩
        · rw [q] at h; cases h
        · rw [q] at h; cases h
      · exact .inl ⟨o, h⟩
      · exact .inr fun H => .inr h
    | succ l => simp at e
  · cases l with
    | zero => simp at e1; subst e1; cases t1
    | succ l => simp at e1
  · rw [h1]
    intro φ1 H1 v _ _ _ r
    cases r
    rfl
end
theorem FunD.same {K : PySem.W.Frag} {x qual : PySem.Str} {params : Arguments} {body : List Stmt} {scope : Scope} {f : Addr} {fd fd' : FuncData} (F : FunD K x qual params body scope [] [] f fd) (F' : FunD K x qual params body scope [] [] f fd') : fd = fd' := by
  obtain ⟨oc, od, dV, kV, doc, pm, an, cdv, ct, osl, e1, l1, _⟩ := F.ex
  obtain ⟨oc', od', dV', kV', doc', pm', an', cdv', ct', osl', e2, l2, _⟩ := F'.ex
  rw [l1] at l2
  injection l2 with l2
  injection l2 with a b c
  injection c
/-- an exception of the law, in any world -/
def CXw (prog : Program) : CXT := fun o H s E u s' => ∃ w, L2.CX prog w o H s E u s'
theorem CXw.no {prog : Program} (H : Hp) (s : Shared) (e : Value) (s' : Shared) (h : CXw prog [] H s (fun _ _ _ => False) e s') : False := by
  obtain ⟨w, _, _, _, _, _, _, _, _, _, _, _, _, z⟩ := h
  exact z.elim
/-! ### the head's facts -/
/-- constants of the module: ints, texts -/
inductive Gv where
  | int (i : Int) | str (x : PySem.Str) | tup (us : List (Int ⊕ PySem.Str))
def flG : Int ⊕ PySem.Str → U
  | .inl i => .int i
  | .inr x => .str x
def flD : Int ⊕ PySem.Str → He.Dv
  | .inl i => .int i
  | .inr x => .str x
def Gv.u : Gv → U
  | .int i => .int i
  | .str x => .str x
  | .tup us => .tup (us.map flG)
def Gv.fct (x : PySem.Str) : Gv → He.Fa
  | .int i => .int x i
  | .str z => .str x z
  | .tup _ => .glo x
/-- what is asked of a tuple beyond its name -/
def Gv.ex (x : PySem.Str) (K : PySem.W.Frag) : Gv → Bool
  | .tup us => He.tupB K x (us.map flD)
  | _ => true
def exOf (gs : List (PySem.Str × Gv)) (K : PySem.W.Frag) : Bool := gs.all fun q => q.2.ex q.1 K
theorem rel_flat {D : Wd} {φ : List Addr} {H : Hp} : ∀ us : List (Int ⊕ PySem.Str), RelUs D φ H (us.map flG) ((us.map flD).map (He.Dv.v D.K))
  | [] => .nil
  | .inl i :: us => .cons (.int i) (rel_flat us)
  | .inr i :: us => .cons (.str i) (rel_flat us)
section
variable {fa : List He.Fa} {K : PySem.W.Frag} {h : Heap} {mg : PySem.Str → Option Value}
/-! properties: the getter's address, what is asked of it -/
def prG (K : PySem.W.Frag) (p : PySem.Str × Option PySem.Str) : Addr := match PySem.W.recIn K (He.fAd K p) "property" with
  | some (.ref g :: _) => g
  | _ => 0
def fnWA (K : PySem.W.Frag) (a : Addr) : He.FnW := match K.lookup a with
  | some ⟨_, _, .func w, _⟩ => some (w.name, w.qualname, w.params, w.body, w.scope, w.globals, w.closure, w.builtins)
  | _ => none
def prB (K : PySem.W.Frag) (d : He.DefD) : Bool := (match d.at_.2 with
  | some m => He.eqO (PySem.W.findIn K (.ref (He.ga K d.at_.1)) m) (some (some (.ref (He.fAd K d.at_))))
  | none => false) && (decide (PySem.W.specialIn K (.ref (He.fAd K d.at_)) "__get__" = some (some (.builtin "property.__get__"))) && (decide (PySem.W.takesIn K (.ref (He.fAd K d.at_)) = some true) && ((match PySem.W.recIn K (He.fAd K d.at_) "property" with
  | some (.ref _ :: _) => true
  | _ => false) && (PySem.W.keepIn K (.ref (prG K d.at_)) && match K.lookup (prG K d.at_) with
  | some ⟨_, _, .func w, _⟩ => PySem.W.codeIn K w.code d.qual && (He.dflB K w.defaults [] && He.kwdB K w.kwdefaults [])
  | _ => false))))
/-- what a part of the heap tells of properties -/
def SaysP (ps : List He.DefD) (K : PySem.W.Frag) : Prop := ps.all (prB K) = true ∧ ps.map (fun d => fnWA K (prG K d.at_)) = ps.map He.DefD.val
theorem prp_of {K : PySem.W.Frag} {d : He.DefD} {m : PySem.Str} (h : prB K d = true) (e : d.at_.2 = some m) : PropOf K (He.ga K d.at_.1) m (He.fAd K d.at_) (prG K d.at_) := by
  unfold prB at h
  rw [e] at h
  obtain ⟨h1, h⟩ := b2 h
  obtain ⟨h2, h⟩ := b2 h
  obtain ⟨h3, h⟩ := b2 h
  obtain ⟨h4, h⟩ := b2 h
  refine ⟨He.eqO_ok h1, of_decide_eq_true h2, of_decide_eq_true h3, ?_⟩
  unfold prG
  cases q : PySem.W.recIn K (He.fAd K d.at_) "property" with
  | none => rw [q] at h4; cases h4
  | some l =>
    rw [q] at h4
    cases l with
    | nil => cases h4
    | cons v l =>
      cases v <;> first | (cases h4; done) | skip
      exact ⟨l, rfl⟩
theorem prf_of {K : PySem.W.Frag} {d : He.DefD} (h : prB K d = true) (e : fnWA K (prG K d.at_) = d.val) : ∃ fd, FunD K d.name d.qual d.params d.body d.scope [] [] (prG K d.at_) fd := by
  unfold prB at h
  obtain ⟨_, h⟩ := b2 h
  obtain ⟨_, h⟩ := b2 h
  obtain ⟨_, h⟩ := b2 h
  obtain ⟨_, h⟩ := b2 h
  obtain ⟨kp, h⟩ := b2 h
  generalize prG K d.at_ = a at *
  unfold fnWA at e
  cases q : K.lookup a with
  | none => rw [q] at h; cases h
  | some o =>
    obtain ⟨o1, o2, dt, o4⟩ := o
    rw [q] at h e
    cases dt <;> first | (cases h; done) | skip
    rename_i w
    obtain ⟨w1, w2, w3, w4, w5, w6, w7, w8, w9, w10, w11, w12, w13, w14, w15⟩ := w
    have e2 : (some (w1, w2, w3, w4, w5, w6, w7, w15) : He.FnW) = some (d.name, d.qual, d.params, .stmts d.body, d.scope, mainGlobals, [], builtinsNs) := e
    simp only [Option.some.injEq, Prod.mk.injEq] at e2
    obtain ⟨g1, g2, g3, g4, g5, g6, g7, g8⟩ := e2
    subst g1 g2 g3 g4 g5 g6 g7 g8
    have h' : (PySem.W.codeIn K w13 d.qual && (He.dflB K w8 [] && He.kwdB K w9 [])) = true := h
    obtain ⟨c1, h'⟩ := b2 h'
    obtain ⟨c2, c3⟩ := b2 h'
    exact ⟨_, ⟨o1, o2, w8, w9, w10, w11, w12, w13, w14, o4, rfl, q, c1, He.dflB_ok c2, He.kwdB_ok c3⟩, kp⟩
/-- the head's hook, with properties -/
def obsP (n : Nat) (fa : List He.Fa) (fn : List He.DefD) (ex : PySem.W.Frag → Bool) (ps : List He.DefD) (g : Addr → Option Obj) : He.AlX × (Bool × List He.FnW) := (He.obsX n fa fn [] [] ex g, (ps.all (prB (He.frT g (He.asD g n))), ps.map fun d => fnWA (He.frT g (He.asD g n)) (prG (He.frT g (He.asD g n)) d.at_)))
def hookP (n : Nat) (fa : List He.Fa) (fn : List He.DefD) (ex : PySem.W.Frag → Bool) (ps : List He.DefD) : PySem.W.Hook where
  α := He.AlX × (Bool × List He.FnW)
  obs := fun s => obsP n fa fn ex ps s.heap.get?
  val := fun w => (He.valX fn [] w, (true, ps.map He.DefD.val))
  says := fun w h => ∃ K : PySem.W.Frag, K.In h ∧ He.SaysX fa fn [] [] ex w h K ∧ SaysP ps K
  of := fun _ _ e => ⟨_, He.frT_in, He.saysX_of (congrArg Prod.fst e), congrArg (fun z => z.2.1) e, congrArg (fun z => z.2.2) e⟩
  keeps := fun _ _ _ ⟨K, hK, c, cp⟩ k => ⟨K, PySem.W.Frag.In.keeps hK k, ⟨c.t, c.more, c.hd, c.out, fun p hp => k _ _ (c.empty p hp)⟩, cp⟩
theorem obsP_eq {n : Nat} {fa : List He.Fa} {fn : List He.DefD} {ex : PySem.W.Frag → Bool} {ps : List He.DefD} {g : Addr → Option Obj} {s : Shared} (h : ∀ a, g a = s.heap.get? a) : obsP n fa fn ex ps g = (hookP n fa fn ex ps).obs s := by
  have e : g = s.heap.get? := funext h
  rw [e]; rfl
def fnAd (T : List DefI) (K : PySem.W.Frag) (f : Nat) : Addr := match T[f]? with
  | some t => if t.prop then prG K t.d.at_ else He.fAd K t.d.at_
  | none => 0
def fnNm (T : List DefI) : List (Option PySem.Str) := T.map fun t => match t.d.at_.2 with
  | none => some t.d.at_.1
  | some _ => none
/-- the facts that a program wants -/
def cNm (G : Gc) (c : Nat) : PySem.Str := G.cnm.getD c PySem.Str.empty
def clAd (G : Gc) (K : PySem.W.Frag) (c : Nat) : Addr := He.ga K (cNm G c)
/-- the facts about exceptions -/
def exFa (G : Gc) : List He.Fa := G.exs.flatMap fun p => He.Fa.glo (cNm G p.1) :: He.Fa.exc (cNm G p.1) :: G.exs.map fun q => He.Fa.exm (cNm G p.1) (cNm G q.1) (decide (q.1 ∈ p.2))
def nNm (G : Gc) (i : Nat) : PySem.Str := G.nm.getD i PySem.Str.empty
/-- the facts about classes -/
def objFa (G : Gc) (P : Pg) (cl : List Nat) : List He.Fa := (cl.flatMap fun c => [He.Fa.glo (cNm G c), He.Fa.cls (cNm G c)]) ++ ((P.flds.map fun q => He.Fa.noat (cNm G q.1) (nNm G q.2)) ++ ((P.meths.filterMap fun q => match G.props.lookup q.1 with
  | none => some (He.Fa.meth (cNm G q.1.1) (nNm G q.1.2))
  | some _ => none) ++ P.inits.map fun q => He.Fa.mkr (cNm G q.1)))
def objB (G : Gc) (P : Pg) (T : List DefI) (cl : List Nat) : Bool := decide G.nm.Nodup && ((G.mnm.all fun m => P.meths.any fun q => q.1.2 == m) && ((G.ini.all fun c => (P.inits.lookup c).isSome) && ((G.exs.all fun p => (P.inits.lookup p.1).isNone) &&
  ((P.meths.all fun q => (G.props.lookup q.1).isSome || (cl.contains q.1.1 && decide ((T[q.2]?).map (fun t => (t.d.at_, t.prop)) = some ((cNm G q.1.1, some (nNm G q.1.2)), false)))) && (P.inits.all fun q => cl.contains q.1 && decide ((T[q.2]?).map (fun t => (t.d.at_, t.prop)) = some ((cNm G q.1, some ("__init__" : PySem.Str)), false)))))))
def prpB (G : Gc) (P : Pg) (T : List DefI) (cl : List Nat) : Bool := P.meths.all fun q => !(G.pnm.contains q.1.2) || (cl.contains q.1.1 && decide ((T[q.2]?).map (fun t => (t.d.at_, t.prop)) = some ((cNm G q.1.1, some (nNm G q.1.2)), true)) && ((T[q.2]?).map (nxB ·.fn)).getD false)
def faOf (T : List DefI) (G : Gc) (P : Pg) (cl : List Nat) : List He.Fa := ((fnNm T).filterMap fun o => o.map He.Fa.glo) ++ (G.free.map He.Fa.free ++ (exFa G ++ objFa G P cl))
theorem look_memP {α κ : Type} [BEq κ] [LawfulBEq κ] : ∀ {l : List (κ × α)} {c : κ} {a : α}, l.lookup c = some a → (c, a) ∈ l
  | [], c, a, h => by cases h
  | (b, x) :: l, c, a, h => by
    rw [List.lookup_cons] at h
    split at h
    · cases h
      rename_i e
      rw [beq_iff_eq] at e
      subst e
      exact List.mem_cons_self
    · exact List.mem_cons_of_mem _ (look_memP h)
theorem look_some {α κ : Type} [BEq κ] [LawfulBEq κ] : ∀ {l : List (κ × α)} {c : κ} {a : α}, (c, a) ∈ l → ∃ b, l.lookup c = some b
  | (b, x) :: l, c, a, h => by
    rw [List.lookup_cons]
    split
    · exact ⟨_, rfl⟩
    · rename_i e
      rcases List.mem_cons.mp h with h | h
      · cases h
        simp at e
      · exact look_some h
theorem look_mem {α : Type} : ∀ {l : List (Nat × α)} {c : Nat} {a : α}, l.lookup c = some a → (c, a) ∈ l
  | [], c, a, h => by cases h
  | (b, x) :: l, c, a, h => by
    rw [List.lookup_cons] at h
    split at h
    · cases h
      rename_i e
      rw [beq_iff_eq] at e
      subst e
      exact List.mem_cons_self
    · exact List.mem_cons_of_mem _ (look_mem h)
theorem hd_of {P : Pg} {T : List DefI} {G : Gc} {gs : List (PySem.Str × Gv)} {fn : List He.DefD} {ps : List He.DefD} (hfn : fn = (T.filter fun t => !t.prop).map (·.d)) (hps : ps = (T.filter (·.prop)).map (·.d)) (hG : G.fnm = fnNm T) (hg : G.gnm = gs.map (·.1)) (hP : P.glo = gs.map (·.2.u)) (hF : P.fns = T.map (·.fn)) {cl : List Nat} (hfa : fa = faOf T G P cl ++ gs.map fun q => q.2.fct q.1)
    (hc : T.all (defB G) = true) (hb : BindsAll T) (hs : T.all (fun t => t.d.dfl.isEmpty && t.d.kwd.isEmpty && (!t.prop || t.d.at_.2.isSome)) = true) (X : K.In h) (N : h.Ns mainGlobals mg) (c : He.SaysD fa fn K) (ce : exOf gs K = true) (he : P.excs = G.exs) (ho : objB G P T cl = true) (hpr : prpB G P T cl = true) (cp : SaysP ps K) : Hd ⟨K, G.nm, fnAd T K, clAd G K, cl⟩ G P T mg where
  funs := fun f t ht => by
    have hm : t ∈ T := List.mem_of_getElem? ht
    cases hpp : t.prop with
    | true =>
      have hd : t.d ∈ ps := by rw [hps]; exact List.mem_map_of_mem (List.mem_filter.mpr ⟨hm, hpp⟩)
      obtain ⟨i, hi, ei⟩ := List.mem_iff_getElem.mp hd
      have e2 : (ps.map fun d => fnWA K (prG K d.at_))[i]? = (ps.map He.DefD.val)[i]? := by rw [cp.2]
      rw [List.getElem?_map, List.getElem?_map, List.getElem?_eq_getElem hi, ei] at e2
      obtain ⟨fd, F⟩ := prf_of (List.all_eq_true.mp cp.1 _ hd) (Option.some.inj e2)
      refine ⟨fd, ?_⟩
      show FunD K _ _ _ _ _ [] [] (fnAd T K f) fd
      unfold fnAd
      rw [ht]
      dsimp only
      rw [if_pos hpp]
      exact F
    | false =>
    have hd : t.d ∈ fn := by rw [hfn]; exact List.mem_map_of_mem (List.mem_filter.mpr ⟨hm, by rw [hpp]; rfl⟩)
    obtain ⟨fd, F⟩ := c.defs hd
    have h2 := (b2 (List.all_eq_true.mp hs t hm)).1
    rw [Bool.and_eq_true, List.isEmpty_iff, List.isEmpty_iff] at h2
    have e1 : t.d.dvs K = [] := by unfold He.DefD.dvs; rw [h2.1]; rfl
    have e2 : t.d.kws K = [] := by unfold He.DefD.kws; rw [h2.2]; rfl
    rw [e1, e2] at F
    refine ⟨fd, ?_⟩
    show FunD K _ _ _ _ _ [] [] (fnAd T K f) fd
    unfold fnAd
    rw [ht]
    dsimp only
    rw [if_neg (by rw [hpp]; decide)]
    exact F
  glob := fun f x hx => by
    rw [hG] at hx
    unfold fnNm at hx
    rw [List.getElem?_map] at hx
    obtain ⟨t, ht, e⟩ := Option.map_eq_some_iff.mp hx
    refine ⟨?_, t, ht⟩
    cases q : t.d.at_.2 with
    | some m => rw [q] at e; cases e
    | none =>
      rw [q] at e
      have e : t.d.at_.1 = x := Option.some.inj e
      have hm : (He.Fa.glo x) ∈ fa := by
        rw [hfa]
        refine List.mem_append_left _ (List.mem_append_left _ ?_)
        refine List.mem_filterMap.mpr ⟨some x, ?_, rfl⟩
        exact List.mem_map.mpr ⟨t, List.mem_of_getElem? ht, by rw [q, e]⟩
      have := He.glo_ok X N (c.facts hm)
      rw [this]
      show _ = some (Value.ref (fnAd T K f))
      unfold fnAd
      rw [ht]
      have np := (b2 (List.all_eq_true.mp hs t (List.mem_of_getElem? ht))).2
      rw [q, Option.isSome_none, Bool.or_false, Bool.not_eq_true'] at np
      dsimp only
      rw [if_neg (by rw [np]; decide)]
      unfold He.fAd
      rw [q]
      dsimp only
      rw [e]
  chk := fun f t ht => List.all_eq_true.mp hc t (List.mem_of_getElem? ht)
  bnd := hb
  fns := hF
  fr := fun x hx => He.free_ok X N (c.facts (by
    rw [hfa]
    exact List.mem_append_left _ (List.mem_append_right _ (List.mem_append_left _ (List.mem_map_of_mem hx)))))
  exs := he
  noi := fun c as h => by
    unfold objB at ho
    obtain ⟨_, ho⟩ := b2 ho
    obtain ⟨_, ho⟩ := b2 ho
    obtain ⟨_, ho⟩ := b2 ho
    obtain ⟨ho, _⟩ := b2 ho
    have := List.all_eq_true.mp ho _ (look_mem h)
    simpa using this
  dnm := rfl
  nmd := by
    unfold objB at ho
    exact of_decide_eq_true (b2 ho).1
  mne := fun m hm => by
    unfold objB at ho
    obtain ⟨_, ho⟩ := b2 ho
    obtain ⟨ho, _⟩ := b2 ho
    obtain ⟨q, h1, h2⟩ := List.any_eq_true.mp (List.all_eq_true.mp ho m hm)
    obtain ⟨⟨ci, mi⟩, fi⟩ := q
    have h2 : mi = m := by simpa using h2
    subst h2
    obtain ⟨b, hb⟩ := look_some h1
    exact ⟨ci, b, hb⟩
  ine := fun c hm => by
    unfold objB at ho
    obtain ⟨_, ho⟩ := b2 ho
    obtain ⟨_, ho⟩ := b2 ho
    obtain ⟨ho, _⟩ := b2 ho
    exact Option.isSome_iff_exists.mp (List.all_eq_true.mp ho c hm)
  cls := fun ci hm => by
    have m2 : He.Fa.cls (cNm G ci) ∈ fa := by
      rw [hfa]
      refine List.mem_append_left _ (List.mem_append_right _ (List.mem_append_right _ (List.mem_append_right _ (List.mem_append_left _ ?_))))
      exact List.mem_flatMap.mpr ⟨_, hm, List.mem_cons_of_mem _ List.mem_cons_self⟩
    exact He.cls_ok (c.facts m2)
  flf := fun ci f x hm hx => by
    have m2 : He.Fa.noat (cNm G ci) (nNm G f) ∈ fa := by
      rw [hfa]
      refine List.mem_append_left _ (List.mem_append_right _ (List.mem_append_right _ (List.mem_append_right _ (List.mem_append_right _ (List.mem_append_left _ ?_)))))
      exact List.mem_map.mpr ⟨_, hm, rfl⟩
    have e : nNm G f = x := by unfold nNm; rw [List.getD_eq_getElem?_getD, show G.nm[f]? = some x from hx]; rfl
    rw [e] at m2
    exact He.noat_ok (c.facts m2)
  mth := fun ci m f x h1 hx hp => by
    have e : nNm G m = x := by unfold nNm; rw [List.getD_eq_getElem?_getD, show G.nm[m]? = some x from hx]; rfl
    have hm := look_memP h1
    have m2 : He.Fa.meth (cNm G ci) (nNm G m) ∈ fa := by
      rw [hfa]
      refine List.mem_append_left _ (List.mem_append_right _ (List.mem_append_right _ (List.mem_append_right _ (List.mem_append_right _ (List.mem_append_right _ (List.mem_append_left _ ?_))))))
      refine List.mem_filterMap.mpr ⟨_, hm, ?_⟩
      dsimp only
      rw [hp]
    unfold objB at ho
    obtain ⟨_, ho⟩ := b2 ho
    obtain ⟨_, ho⟩ := b2 ho
    obtain ⟨_, ho⟩ := b2 ho
    obtain ⟨_, ho⟩ := b2 ho
    obtain ⟨ho, _⟩ := b2 ho
    have ck := List.all_eq_true.mp ho _ hm
    dsimp only at ck
    rw [hp, Option.isSome_none, Bool.false_or] at ck
    obtain ⟨k1, k2⟩ := b2 ck
    have k2 := of_decide_eq_true k2
    obtain ⟨t, ht, ha⟩ := Option.map_eq_some_iff.mp k2
    obtain ⟨ha, np⟩ := Prod.mk.inj ha
    have q := He.meth_ok (c.facts m2)
    rw [e] at q
    refine ⟨by simpa using k1, ?_, t, ht⟩
    show Meth K (clAd G K ci) x (fnAd T K f)
    have : fnAd T K f = He.ma K (He.ga K (cNm G ci)) x := by
      unfold fnAd
      rw [ht]
      dsimp only
      rw [if_neg (by rw [np]; decide), ha, e]
      rfl
    rw [this]
    exact q
  prp := fun ci m f x h1 hx hp => by
    have e : nNm G m = x := by unfold nNm; rw [List.getD_eq_getElem?_getD, show G.nm[m]? = some x from hx]; rfl
    have ck := List.all_eq_true.mp hpr _ (look_memP h1)
    dsimp only at ck
    rw [show G.pnm.contains m = true by simpa using hp, Bool.not_true, Bool.false_or] at ck
    obtain ⟨ck, k3⟩ := b2 ck
    obtain ⟨k1, k2⟩ := b2 ck
    obtain ⟨t, ht, ha⟩ := Option.map_eq_some_iff.mp (of_decide_eq_true k2)
    rw [ht] at k3
    obtain ⟨ha, hpp⟩ := Prod.mk.inj ha
    have hd : t.d ∈ ps := by rw [hps]; exact List.mem_map_of_mem (List.mem_filter.mpr ⟨List.mem_of_getElem? ht, hpp⟩)
    have q := prp_of (List.all_eq_true.mp cp.1 _ hd) (m := x) (by rw [ha, e])
    refine ⟨by simpa using k1, ⟨He.fAd K t.d.at_, ?_⟩, t, ht, k3⟩
    show PropOf K (clAd G K ci) x _ (fnAd T K f)
    unfold fnAd clAd
    rw [ht]
    dsimp only
    rw [if_pos hpp]
    rw [ha] at q ⊢
    exact q
  ini := fun ci f x h1 hx => by
    have e : cNm G ci = x := by unfold cNm; rw [List.getD_eq_getElem?_getD, hx]; rfl
    have hm := look_memP h1
    have m2 : He.Fa.mkr (cNm G ci) ∈ fa := by
      rw [hfa]
      refine List.mem_append_left _ (List.mem_append_right _ (List.mem_append_right _ (List.mem_append_right _ (List.mem_append_right _ (List.mem_append_right _ (List.mem_append_right _ ?_))))))
      exact List.mem_map.mpr ⟨_, hm, rfl⟩
    unfold objB at ho
    obtain ⟨_, ho⟩ := b2 ho
    obtain ⟨_, ho⟩ := b2 ho
    obtain ⟨_, ho⟩ := b2 ho
    obtain ⟨_, ho⟩ := b2 ho
    obtain ⟨_, ho⟩ := b2 ho
    have ck := List.all_eq_true.mp ho _ hm
    obtain ⟨k1, k2⟩ := b2 ck
    have k2 := of_decide_eq_true k2
    obtain ⟨t, ht, ha⟩ := Option.map_eq_some_iff.mp k2
    obtain ⟨ha, np⟩ := Prod.mk.inj ha
    have hcl : ci ∈ cl := by simpa using k1
    have m1 : He.Fa.glo (cNm G ci) ∈ fa := by
      rw [hfa]
      refine List.mem_append_left _ (List.mem_append_right _ (List.mem_append_right _ (List.mem_append_right _ (List.mem_append_left _ ?_))))
      exact List.mem_flatMap.mpr ⟨_, hcl, List.mem_cons_self⟩
    have q := He.mkr_ok (c.facts m2)
    refine ⟨hcl, ?_, ?_, t, ht⟩
    · show Mk K (clAd G K ci) (fnAd T K f)
      have : fnAd T K f = He.ma K (He.ga K (cNm G ci)) "__init__" := by
        unfold fnAd
        rw [ht]
        dsimp only
        rw [if_neg (by rw [np]; decide), ha]
        rfl
      rw [this]
      exact q
    · have := He.glo_ok X N (c.facts m1)
      rw [e] at this
      show mg x = some (.ref (clAd G K ci))
      unfold clAd
      rw [e]
      exact this
  exc := fun ci x as hx ha => by
    have e : cNm G ci = x := by unfold cNm; rw [List.getD_eq_getElem?_getD, hx]; rfl
    have hm := look_mem ha
    have m1 : He.Fa.glo x ∈ fa := by
      rw [hfa]
      refine List.mem_append_left _ (List.mem_append_right _ (List.mem_append_right _ (List.mem_append_left _ ?_)))
      exact List.mem_flatMap.mpr ⟨_, hm, by rw [← e]; exact List.mem_cons_self⟩
    have m2 : He.Fa.exc x ∈ fa := by
      rw [hfa]
      refine List.mem_append_left _ (List.mem_append_right _ (List.mem_append_right _ (List.mem_append_left _ ?_)))
      exact List.mem_flatMap.mpr ⟨_, hm, by rw [← e]; exact List.mem_cons_of_mem _ List.mem_cons_self⟩
    have q1 := He.glo_ok X N (c.facts m1)
    obtain ⟨q2, q3, q4, q5⟩ := He.exc_ok (c.facts m2)
    show mg x = some (.ref (clAd G K ci)) ∧ PySem.W.excIn K (clAd G K ci) _ _ = true ∧ PySem.W.keepIn K (.ref (clAd G K ci)) = true ∧ PySem.W.subIn K (.ref (clAd G K ci)) _ = _ ∧ PySem.W.typeIn K (.ref (clAd G K ci)) = _
    rw [show clAd G K ci = He.ga K x by unfold clAd; rw [e]]
    exact ⟨q1, q2, q3, q4, q5⟩
  exm := fun ci c' as as' h h' => by
    have m1 : He.Fa.exm (cNm G ci) (cNm G c') (decide (c' ∈ as)) ∈ fa := by
      rw [hfa]
      refine List.mem_append_left _ (List.mem_append_right _ (List.mem_append_right _ (List.mem_append_left _ ?_)))
      exact List.mem_flatMap.mpr ⟨_, look_mem h, List.mem_cons_of_mem _ (List.mem_cons_of_mem _ (List.mem_map.mpr ⟨_, look_mem h', rfl⟩))⟩
    exact He.exm_ok (c.facts m1)
  gl := fun g x u hx hu => by
    rw [hg, List.getElem?_map] at hx
    rw [hP, List.getElem?_map] at hu
    obtain ⟨q, hq, rfl⟩ := Option.map_eq_some_iff.mp hx
    rw [hq] at hu
    cases hu
    have hm : q.2.fct q.1 ∈ fa := by
      rw [hfa]
      exact List.mem_append_right _ (List.mem_map.mpr ⟨q, List.mem_of_getElem? hq, rfl⟩)
    have cf := c.facts hm
    cases e : q.2 with
    | int i =>
      rw [e] at cf
      obtain ⟨t, h2⟩ := He.int_ok X N cf
      exact ⟨_, h2, fun φ H => ⟨.int i, by show RelU _ _ _ q.2.u _; rw [e]; exact .int i, t, rfl⟩⟩
    | str z =>
      rw [e] at cf
      obtain ⟨t, h2⟩ := He.str_ok X N cf
      exact ⟨_, h2, fun φ H => ⟨.str z, by show RelU _ _ _ q.2.u _; rw [e]; exact .str z, t, rfl⟩⟩
    | tup us =>
      rw [e] at cf
      have h2 := He.glo_ok X N cf
      have h3 := List.all_eq_true.mp ce q (List.mem_of_getElem? hq)
      rw [e] at h3
      exact ⟨_, h2, fun φ H => ⟨.ref (He.ga K q.1), by show RelU _ _ _ q.2.u _; rw [e]; exact .tup (He.tupB_ok h3 H) (rel_flat us), rfl⟩⟩
end
end PyI
namespace PyM
end PyM
/-! ### the program in the small machine (printed by gen.py) -/
namespace Lk08
open PyI PyM
def lp_octets_number_0 : Sts := (.cons (.asg (.nm 1) (.bin .add (.bin .mul (.var 1) (.int 256)) (.var 2))) (.cons (.kill [2]) .nil))
def b_octets_number : Sts := (.cons (.asg (.nm 1) (.int 0)) (.cons (.for_ (.nm 2) (.rev (.var 0)) lp_octets_number_0) (.cons (.kill [2]) (.cons (.ret (.mov 1)) .nil))))
def f_octets_number : Fn := ⟨1, 3, b_octets_number, [.ln]⟩
def b_size_fits : Sts := (.cons (.ret (.and (.cmp2 .le .le (.glo 0) (.var 0) (.glo 1)) (.cmp .eq (.bin .mod (.var 0) (.int 4)) (.int 0)))) .nil)
def f_size_fits : Fn := ⟨1, 1, b_size_fits, [.ln]⟩
def wc_cut_messages_0 : E := (.cmp .ge (.bin .sub (.bi .len (.cons (.var 0) .nil)) (.var 2)) (.glo 0))
def lp_cut_messages_0 : Sts := (.cons (.asg (.nm 3) (.call 0 (.cons (.cut (.var 0) (.some (.bin .add (.var 2) (.int 6))) (.some (.bin .add (.var 2) (.int 8)))) .nil))) (.cons (.ifS (.not (.call 1 (.cons (.var 3) .nil))) (.cons (.ret (.tup (.cons (.mov 1) (.cons (.cut (.var 0) (.some (.var 2)) .none) (.cons (.bl true) .nil))))) .nil) .nil) (.cons (.ifS (.cmp .lt (.bin .sub (.bi .len (.cons (.var 0) .nil)) (.var 2)) (.var 3)) (.cons .brk .nil) .nil) (.cons (.asg (.nm 4) (.call 0 (.cons (.cut (.var 0) (.some (.var 2)) (.some (.bin .add (.var 2) (.int 4)))) .nil))) (.cons (.asg (.nm 5) (.call 0 (.cons (.cut (.var 0) (.some (.bin .add (.var 2) (.int 4))) (.some (.bin .add (.var 2) (.int 6)))) .nil))) (.cons (.exp (.bm .append (.var 1) (.cons (.tup (.cons (.mov 4) (.cons (.mov 5) (.cons (.cut (.var 0) (.some (.bin .add (.var 2) (.glo 0))) (.some (.bin .add (.var 2) (.var 3)))) .nil)))) .nil))) (.cons (.asg (.nm 2) (.bin .add (.var 2) (.var 3))) (.cons (.kill [3, 4, 5]) .nil))))))))
def b_cut_messages : Sts := (.cons (.asg (.nm 1) (.lst .nil)) (.cons (.asg (.nm 2) (.int 0)) (.cons (.whl wc_cut_messages_0 lp_cut_messages_0) (.cons (.kill [3, 4, 5]) (.cons (.ret (.tup (.cons (.mov 1) (.cons (.cut (.var 0) (.some (.var 2)) .none) (.cons (.bl false) .nil))))) .nil)))))
def f_cut_messages : Fn := ⟨1, 6, b_cut_messages, [.ln]⟩
def b_Cutter___init__ : Sts := (.cons (.setf (.var 0) 0 (.lst .nil)) (.cons (.setf (.var 0) 1 (.bl false)) .nil))
def f_Cutter___init__ : Fn := ⟨1, 1, b_Cutter___init__, [.ln]⟩
def b_Cutter_fault : Sts := (.cons (.ret (.fld (.var 0) 1)) .nil)
def f_Cutter_fault : Fn := ⟨1, 1, b_Cutter_fault, [.ln]⟩
def b_Cutter_uncut : Sts := (.cons (.ret (.bi .list (.cons (.fld (.var 0) 0) .nil))) .nil)
def f_Cutter_uncut : Fn := ⟨1, 1, b_Cutter_uncut, [.ln]⟩
def b_Cutter_feed : Sts := (.cons (.setf (.var 0) 0 (.bin .add (.fld (.var 0) 0) (.bi .list (.cons (.var 1) .nil)))) (.cons (.ifS (.fld (.var 0) 1) (.cons (.ret (.lst .nil)) .nil) .nil) (.cons (.asg (.tp [2, 3, 4]) (.call 2 (.cons (.fld (.var 0) 0) .nil))) (.cons (.setf (.var 0) 0 (.mov 3)) (.cons (.setf (.var 0) 1 (.mov 4)) (.cons (.ret (.mov 2)) .nil))))))
def f_Cutter_feed : Fn := ⟨2, 5, b_Cutter_feed, [.ln, .ln]⟩
def b__law_cell : Sts := (.cons (.asg (.nm 2) (.int 0)) (.cons (.ifS (.cmp .gt (.bi .len (.cons (.var 0) .nil)) (.int 0)) (.cons (.asg (.nm 2) (.ix (.var 0) (.bin .mod (.bi .int (.cons (.var 1) .nil)) (.bi .len (.cons (.var 0) .nil))))) .nil) .nil) (.cons (.ifS (.cmp .lt (.var 2) (.int 0)) (.cons (.asg (.nm 2) (.bin .sub (.int 1) (.bin .mul (.int 2) (.var 2)))) .nil) .nil) (.cons (.ret (.mov 2)) .nil))))
def f__law_cell : Fn := ⟨2, 3, b__law_cell, [.ln, .ln]⟩
def b__law_row : Sts := (.cons (.asg (.nm 2) (.call 7 (.cons (.var 0) (.cons (.var 1) .nil)))) (.cons (.ifS (.and (.cmp .lt (.var 1) (.bi .len (.cons (.var 0) .nil))) (.cmp .ge (.var 2) (.int 1000000000))) (.cons (.ret (.mov 2)) .nil) .nil) (.cons (.asg (.nm 3) (.bin .mod (.bi .int (.cons (.bin .add (.bin .add (.bin .mul (.var 2) (.int 48271)) (.bin .mul (.var 1) (.int 69621))) (.int 12345)) .nil)) (.int 2147483647))) (.cons (.asg (.nm 4) (.bin .mod (.bi .int (.cons (.bin .add (.bin .add (.bin .mul (.var 3) (.var 3)) (.bin .mul (.int 16807) (.var 1))) (.int 7)) .nil)) (.int 2147483629))) (.cons (.ret (.bin .add (.bin .mod (.bi .int (.cons (.bin .add (.bin .mul (.var 4) (.var 4)) (.var 3)) .nil)) (.int 4294967291)) (.bin .mul (.int 4294967296) (.bin .add (.var 3) (.int 1))))) .nil)))))
def f__law_row : Fn := ⟨2, 5, b__law_row, [.ln, .ln]⟩
def cm__law_message_0 : E := (.comp [4] (.nm 4) (.rng1 (.bin .mul (.int 4) (.bin .mod (.bi .int (.cons (.bin .fdiv (.var 0) (.int 7)) .nil)) (.int 6)))) .none (.bin .mod (.bi .int (.cons (.bin .fdiv (.var 0) (.bin .add (.var 4) (.int 2))) .nil)) (.int 256)))
def b__law_message : Sts := (.cons (.asg (.nm 1) (.bin .add (.int 1) (.bin .mod (.bi .int (.cons (.var 0) .nil)) (.int 7)))) (.cons (.asg (.nm 2) (.bin .mod (.bi .int (.cons (.bin .fdiv (.var 0) (.int 5)) .nil)) (.int 9))) (.cons (.ifS (.cmp .eq (.bin .mod (.bi .int (.cons (.bin .fdiv (.var 0) (.int 3)) .nil)) (.int 4)) (.int 0)) (.cons (.asg (.nm 1) (.bin .add (.int 1) (.bin .mod (.bi .int (.cons (.bin .fdiv (.var 0) (.int 11)) .nil)) (.int 4294967295)))) (.cons (.asg (.nm 2) (.bin .mod (.bi .int (.cons (.bin .fdiv (.var 0) (.int 13)) .nil)) (.int 65536))) .nil)) .nil) (.cons (.asg (.nm 3) cm__law_message_0) (.cons (.asg (.nm 5) (.bin .add (.bi .len (.cons (.var 3) .nil)) (.int 8))) (.cons (.asg (.nm 6) (.lst (.cons (.bin .mod (.bin .fdiv (.var 1) (.int 1)) (.int 256)) (.cons (.bin .mod (.bin .fdiv (.var 1) (.int 256)) (.int 256)) (.cons (.bin .mod (.bin .fdiv (.var 1) (.int 65536)) (.int 256)) (.cons (.bin .mod (.bin .fdiv (.var 1) (.int 16777216)) (.int 256)) .nil)))))) (.cons (.ret (.bin .add (.bin .add (.var 6) (.lst (.cons (.bin .mod (.bin .fdiv (.var 2) (.int 1)) (.int 256)) (.cons (.bin .mod (.bin .fdiv (.var 2) (.int 256)) (.int 256)) (.cons (.mov 5) (.cons (.int 0) .nil)))))) (.var 3))) .nil)))))))
def f__law_message : Fn := ⟨1, 7, b__law_message, [.ln]⟩
def lp__law_stream_0 : Sts := (.cons (.asg (.nm 4) (.call 8 (.cons (.var 0) (.cons (.var 3) .nil)))) (.cons (.ifS (.cmp .eq (.bin .mod (.bi .int (.cons (.var 4) .nil)) (.int 17)) (.int 5)) (.cons (.asg (.nm 5) (.ix (.tup (.cons (.int 0) (.cons (.int 4) (.cons (.int 7) (.cons (.int 9) (.cons (.int 10) (.cons (.int 20481) (.cons (.int 20484) (.cons (.int 65532) .nil))))))))) (.bin .mod (.bi .int (.cons (.bin .fdiv (.var 4) (.int 17)) .nil)) (.int 8)))) (.cons (.asg (.nm 2) (.bin .add (.bin .add (.var 2) (.lst (.cons (.int 1) (.cons (.int 0) (.cons (.int 0) (.cons (.int 0) (.cons (.int 0) (.cons (.int 0) (.cons (.bin .mod (.var 5) (.int 256)) (.cons (.bin .fdiv (.var 5) (.int 256)) .nil)))))))))) (.bin .mul (.lst (.cons (.int 7) .nil)) (.bin .mod (.bi .int (.cons (.bin .fdiv (.var 4) (.int 136)) .nil)) (.int 9))))) .nil)) (.cons (.asg (.nm 2) (.bin .add (.var 2) (.call 9 (.cons (.bi .int (.cons (.bin .fdiv (.var 4) (.int 17)) .nil)) .nil)))) .nil)) (.cons (.kill [5]) (.cons (.kill [3, 4, 5]) .nil))))
def b__law_stream : Sts := (.cons (.asg (.nm 2) (.lst .nil)) (.cons (.for_ (.nm 3) (.rng1 (.var 1)) lp__law_stream_0) (.cons (.kill [3, 4, 5]) (.cons (.asg (.nm 4) (.call 8 (.cons (.var 0) (.cons (.bin .add (.var 1) (.int 63)) .nil)))) (.cons (.ret (.bin .add (.var 2) (.cut (.lst (.cons (.int 9) (.cons (.int 0) (.cons (.int 0) (.cons (.int 0) (.cons (.int 1) (.cons (.int 0) (.cons (.int 16) (.cons (.int 0) (.cons (.int 5) (.cons (.int 5) (.cons (.int 5) .nil)))))))))))) .none (.some (.bin .mod (.bi .int (.cons (.var 4) .nil)) (.int 12)))))) .nil)))))
def f__law_stream : Fn := ⟨2, 6, b__law_stream, [.ln, .ln]⟩
def wc__law_cut_0 : E := (.and (.cmp .ge (.bin .sub (.bi .len (.cons (.var 0) .nil)) (.var 2)) (.int 8)) (.not (.var 3)))
def lp__law_cut_0 : Sts := (.cons (.asg (.nm 4) (.bin .add (.ix (.var 0) (.bin .add (.var 2) (.int 6))) (.bin .mul (.int 256) (.ix (.var 0) (.bin .add (.var 2) (.int 7)))))) (.cons (.ifS (.or (.cmp .lt (.var 4) (.int 8)) (.or (.cmp .gt (.var 4) (.int 20480)) (.cmp .ne (.bin .mod (.bi .int (.cons (.var 4) .nil)) (.int 4)) (.int 0)))) (.cons (.asg (.nm 3) (.bl true)) .nil) (.cons (.ifS (.cmp .lt (.bin .sub (.bi .len (.cons (.var 0) .nil)) (.var 2)) (.var 4)) (.cons .brk .nil) (.cons (.asg (.nm 5) (.bin .add (.bin .add (.bin .add (.ix (.var 0) (.var 2)) (.bin .mul (.int 256) (.ix (.var 0) (.bin .add (.var 2) (.int 1))))) (.bin .mul (.int 65536) (.ix (.var 0) (.bin .add (.var 2) (.int 2))))) (.bin .mul (.int 16777216) (.ix (.var 0) (.bin .add (.var 2) (.int 3)))))) (.cons (.exp (.bm .append (.var 1) (.cons (.tup (.cons (.mov 5) (.cons (.bin .add (.ix (.var 0) (.bin .add (.var 2) (.int 4))) (.bin .mul (.int 256) (.ix (.var 0) (.bin .add (.var 2) (.int 5))))) (.cons (.cut (.var 0) (.some (.bin .add (.var 2) (.int 8))) (.some (.bin .add (.var 2) (.var 4)))) .nil)))) .nil))) (.cons (.asg (.nm 2) (.bin .add (.var 2) (.var 4))) .nil)))) (.cons (.kill [5]) .nil))) (.cons (.kill [5]) (.cons (.kill [4, 5]) .nil))))
def b__law_cut : Sts := (.cons (.asg (.nm 1) (.lst .nil)) (.cons (.asg (.nm 2) (.int 0)) (.cons (.asg (.nm 3) (.bl false)) (.cons (.whl wc__law_cut_0 lp__law_cut_0) (.cons (.kill [4, 5]) (.cons (.ret (.tup (.cons (.mov 1) (.cons (.cut (.var 0) (.some (.var 2)) .none) (.cons (.mov 3) .nil))))) .nil))))))
def f__law_cut : Fn := ⟨1, 6, b__law_cut, [.ln]⟩
def wc_law_0 : E := (.cmp .lt (.var 4) (.bi .len (.cons (.var 1) .nil)))
def lp_law_0 : Sts := (.cons (.asg (.nm 6) (.bin .mod (.bi .int (.cons (.call 8 (.cons (.var 0) (.cons (.bin .add (.int 100) (.var 5)) .nil))) .nil)) (.int 31))) (.cons (.ifS (.cmp .eq (.bin .mod (.bi .int (.cons (.var 5) .nil)) (.int 40)) (.int 39)) (.cons (.asg (.nm 6) (.int 31)) .nil) .nil) (.cons (.asg (.nm 7) (.cut (.var 1) (.some (.var 4)) (.some (.bin .add (.var 4) (.var 6))))) (.cons (.asg (.nm 8) (.bi .list (.cons (.var 7) .nil))) (.cons (.asg (.nm 3) (.bin .add (.var 3) (.meth 4 (.var 2) (.cons (.var 7) .nil)))) (.cons (.ifS (.cmp .ne (.var 7) (.var 8)) (.cons (.ret (.bl false)) .nil) .nil) (.cons (.asg (.nm 4) (.bin .add (.var 4) (.bi .len (.cons (.var 7) .nil)))) (.cons (.asg (.nm 5) (.bin .add (.var 5) (.int 1))) (.cons (.asg (.nm 9) (.call 2 (.cons (.cut (.var 1) .none (.some (.var 4))) .nil))) (.cons (.ifS (.or (.cmp .ne (.var 3) (.ix (.var 9) (.int 0))) (.or (.cmp .ne (.meth 2 (.var 2) .nil) (.ix (.var 9) (.int 2))) (.cmp .ne (.meth 3 (.var 2) .nil) (.ix (.var 9) (.int 1))))) (.cons (.ret (.bl false)) .nil) .nil) (.cons (.kill [6, 7, 8, 9]) .nil)))))))))))
def b_law : Sts := (.cons (.asg (.nm 1) (.call 10 (.cons (.var 0) (.cons (.bin .add (.bi .min (.cons (.bi .len (.cons (.var 0) .nil)) (.cons (.int 40) .nil))) (.int 2)) .nil)))) (.cons (.asg (.nm 2) (.mk 0 .nil)) (.cons (.ifS (.or (.meth 2 (.var 2) .nil) (.or (.cmp .ne (.meth 3 (.var 2) .nil) (.lst .nil)) (.cmp .ne (.meth 4 (.var 2) (.cons (.lst .nil) .nil)) (.lst .nil)))) (.cons (.ret (.bl false)) .nil) .nil) (.cons (.asg (.nm 3) (.lst .nil)) (.cons (.asg (.nm 4) (.int 0)) (.cons (.asg (.nm 5) (.int 0)) (.cons (.whl wc_law_0 lp_law_0) (.cons (.kill [3, 4, 5, 6, 7, 8, 9]) (.cons (.asg (.nm 10) (.meth 3 (.var 2) .nil)) (.cons (.exp (.bm .append (.var 10) (.cons (.int 1) .nil))) (.cons (.ret (.cmp .eq (.meth 3 (.var 2) .nil) (.ix (.call 2 (.cons (.var 1) .nil)) (.int 1)))) .nil)))))))))))
def f_law : Fn := ⟨1, 11, b_law, [.ln]⟩
def P : Pg := { fns := [f_octets_number, f_size_fits, f_cut_messages, f_Cutter___init__, f_Cutter_fault, f_Cutter_uncut, f_Cutter_feed, f__law_cell, f__law_row, f__law_message, f__law_stream, f__law_cut, f_law], glo := [U.int 8, U.int 20480], meths := [((0, 2), 4), ((0, 3), 5), ((0, 4), 6)], inits := [(0, 3)], excs := [], flds := [(0, 0), (0, 1)] }
@[simp] theorem gl_0 : P.glo[0]? = some (U.int 8) := rfl
@[simp] theorem gl_1 : P.glo[1]? = some (U.int 20480) := rfl
@[simp] theorem at_octets_number : P.fns[0]? = some f_octets_number := rfl
@[simp] theorem at_size_fits : P.fns[1]? = some f_size_fits := rfl
@[simp] theorem at_cut_messages : P.fns[2]? = some f_cut_messages := rfl
@[simp] theorem at_Cutter___init__ : P.fns[3]? = some f_Cutter___init__ := rfl
@[simp] theorem at_Cutter_fault : P.fns[4]? = some f_Cutter_fault := rfl
@[simp] theorem at_Cutter_uncut : P.fns[5]? = some f_Cutter_uncut := rfl
@[simp] theorem at_Cutter_feed : P.fns[6]? = some f_Cutter_feed := rfl
@[simp] theorem at__law_cell : P.fns[7]? = some f__law_cell := rfl
@[simp] theorem at__law_row : P.fns[8]? = some f__law_row := rfl
@[simp] theorem at__law_message : P.fns[9]? = some f__law_message := rfl
@[simp] theorem at__law_stream : P.fns[10]? = some f__law_stream := rfl
@[simp] theorem at__law_cut : P.fns[11]? = some f__law_cut := rfl
@[simp] theorem at_law : P.fns[12]? = some f_law := rfl
@[simp] theorem md_octets_number : f_octets_number.md = [.ln] := rfl
@[simp] theorem md_size_fits : f_size_fits.md = [.ln] := rfl
@[simp] theorem md_cut_messages : f_cut_messages.md = [.ln] := rfl
@[simp] theorem md_Cutter___init__ : f_Cutter___init__.md = [.ln] := rfl
@[simp] theorem md_Cutter_fault : f_Cutter_fault.md = [.ln] := rfl
@[simp] theorem md_Cutter_uncut : f_Cutter_uncut.md = [.ln] := rfl
@[simp] theorem md_Cutter_feed : f_Cutter_feed.md = [.ln, .ln] := rfl
@[simp] theorem md__law_cell : f__law_cell.md = [.ln, .ln] := rfl
@[simp] theorem md__law_row : f__law_row.md = [.ln, .ln] := rfl
@[simp] theorem md__law_message : f__law_message.md = [.ln] := rfl
@[simp] theorem md__law_stream : f__law_stream.md = [.ln, .ln] := rfl
@[simp] theorem md__law_cut : f__law_cut.md = [.ln] := rfl
@[simp] theorem md_law : f_law.md = [.ln] := rfl
@[simp] theorem me_0_2 : P.meths.lookup (0, 2) = some 4 := rfl
@[simp] theorem me_0_3 : P.meths.lookup (0, 3) = some 5 := rfl
@[simp] theorem me_0_4 : P.meths.lookup (0, 4) = some 6 := rfl
@[simp] theorem in_0 : P.inits.lookup 0 = some 3 := rfl
@[simp] theorem fl_0_0 : P.flds.contains (0, 0) = true := rfl
@[simp] theorem fm_0_0 : (0, 0) ∈ P.flds := by decide
@[simp] theorem fl_0_1 : P.flds.contains (0, 1) = true := rfl
@[simp] theorem fm_0_1 : (0, 1) ∈ P.flds := by decide
@[simp] abbrev i_octets_number : Nat := 0
@[simp] abbrev i_size_fits : Nat := 1
@[simp] abbrev i_cut_messages : Nat := 2
@[simp] abbrev i_Cutter___init__ : Nat := 3
@[simp] abbrev i_Cutter_fault : Nat := 4
@[simp] abbrev i_Cutter_uncut : Nat := 5
@[simp] abbrev i_Cutter_feed : Nat := 6
@[simp] abbrev i__law_cell : Nat := 7
@[simp] abbrev i__law_row : Nat := 8
@[simp] abbrev i__law_message : Nat := 9
@[simp] abbrev i__law_stream : Nat := 10
@[simp] abbrev i__law_cut : Nat := 11
@[simp] abbrev i_law : Nat := 12
end Lk08
namespace Lk08
def FUEL : Nat := 100000
def LEVEL : Nat := 12
end Lk08
/-! ### its place in the text (printed by gen.py) -/
namespace Lk08E
open PySem L2 PyI Lk08
def top (i : Nat) : Stmt := PySem.Challenge.pw_sillwatch_k08_cutter_in_portions.main.body.getD i (.Pass ⟨0, 0, 0, 0⟩)
def s_octets_number : Stmt := top 1
def t_octets_number : DefI := ⟨⟨("octets_number", none), "octets_number", "octets_number", defArgs s_octets_number, defBody s_octets_number, defScope s_octets_number, [], []⟩, ["octets", "value", "octet"], ["octets"], f_octets_number, false⟩
def s_size_fits : Stmt := top 5
def t_size_fits : DefI := ⟨⟨("size_fits", none), "size_fits", "size_fits", defArgs s_size_fits, defBody s_size_fits, defScope s_size_fits, [], []⟩, ["size"], ["size"], f_size_fits, false⟩
def s_cut_messages : Stmt := top 6
def t_cut_messages : DefI := ⟨⟨("cut_messages", none), "cut_messages", "cut_messages", defArgs s_cut_messages, defBody s_cut_messages, defScope s_cut_messages, [], []⟩, ["octets", "messages", "at", "size", "number", "opcode"], ["octets"], f_cut_messages, false⟩
def s_Cutter___init__ : Stmt := inClass (top 7) 0
def t_Cutter___init__ : DefI := ⟨⟨("Cutter", some "__init__"), "__init__", "Cutter.__init__", defArgs s_Cutter___init__, defBody s_Cutter___init__, defScope s_Cutter___init__, [], []⟩, ["self"], ["self"], f_Cutter___init__, false⟩
def s_Cutter_fault : Stmt := inClass (top 7) 1
def t_Cutter_fault : DefI := ⟨⟨("Cutter", some "fault"), "fault", "Cutter.fault", defArgs s_Cutter_fault, defBody s_Cutter_fault, defScope s_Cutter_fault, [], []⟩, ["self"], ["self"], f_Cutter_fault, true⟩
def s_Cutter_uncut : Stmt := inClass (top 7) 2
def t_Cutter_uncut : DefI := ⟨⟨("Cutter", some "uncut"), "uncut", "Cutter.uncut", defArgs s_Cutter_uncut, defBody s_Cutter_uncut, defScope s_Cutter_uncut, [], []⟩, ["self"], ["self"], f_Cutter_uncut, true⟩
def s_Cutter_feed : Stmt := inClass (top 7) 3
def t_Cutter_feed : DefI := ⟨⟨("Cutter", some "feed"), "feed", "Cutter.feed", defArgs s_Cutter_feed, defBody s_Cutter_feed, defScope s_Cutter_feed, [], []⟩, ["self", "octets", "messages", "rest", "fault"], ["self", "octets"], f_Cutter_feed, false⟩
def s__law_cell : Stmt := top 9
def t__law_cell : DefI := ⟨⟨("_law_cell", none), "_law_cell", "_law_cell", defArgs s__law_cell, defBody s__law_cell, defScope s__law_cell, [], []⟩, ["script", "k", "cell"], ["script", "k"], f__law_cell, false⟩
def s__law_row : Stmt := top 10
def t__law_row : DefI := ⟨⟨("_law_row", none), "_law_row", "_law_row", defArgs s__law_row, defBody s__law_row, defScope s__law_row, [], []⟩, ["script", "k", "cell", "one", "two"], ["script", "k"], f__law_row, false⟩
def s__law_message : Stmt := top 11
def t__law_message : DefI := ⟨⟨("_law_message", none), "_law_message", "_law_message", defArgs s__law_message, defBody s__law_message, defScope s__law_message, [], []⟩, ["row", "number", "opcode", "body", "j", "size", "head"], ["row"], f__law_message, false⟩
def s__law_stream : Stmt := top 12
def t__law_stream : DefI := ⟨⟨("_law_stream", none), "_law_stream", "_law_stream", defArgs s__law_stream, defBody s__law_stream, defScope s__law_stream, [], []⟩, ["script", "count", "octets", "k", "row", "size"], ["script", "count"], f__law_stream, false⟩
def s__law_cut : Stmt := top 13
def t__law_cut : DefI := ⟨⟨("_law_cut", none), "_law_cut", "_law_cut", defArgs s__law_cut, defBody s__law_cut, defScope s__law_cut, [], []⟩, ["octets", "messages", "at", "fault", "size", "number"], ["octets"], f__law_cut, false⟩
def s_law : Stmt := top 14
def t_law : DefI := ⟨⟨("law", none), "law", "law", defArgs s_law, defBody s_law, defScope s_law, [], []⟩, ["script", "octets", "cutter", "messages", "at", "k", "size", "portion", "kept", "due", "spoilt"], ["script"], f_law, false⟩
def T : List DefI := [t_octets_number, t_size_fits, t_cut_messages, t_Cutter___init__, t_Cutter_fault, t_Cutter_uncut, t_Cutter_feed, t__law_cell, t__law_row, t__law_message, t__law_stream, t__law_cut, t_law]
def gs : List (PySem.Str × Gv) := [("HEADER", .int 8), ("SIZE_MOST", .int 20480)]
def G : Gc := { fnm := fnNm T, gnm := gs.map (·.1), cnm := ["Cutter"], free := ["reversed", "len", "list", "int", "range", "min"], exs := [], nm := [("_rest" : PySem.Str), ("_failed" : PySem.Str), ("fault" : PySem.Str), ("uncut" : PySem.Str), ("feed" : PySem.Str)], mnm := [2, 3, 4], ini := [0], props := [((0, 2), 4), ((0, 3), 5)] }
def cl : List Nat := [0]
end Lk08E
/-! ### the text is the program; the head (printed by gen.py) -/
namespace Lk08E
open PySem L2 PyI Lk08
theorem ok_octets_number : defB G t_octets_number = true := by decide +kernel
theorem ok_size_fits : defB G t_size_fits = true := by decide +kernel
theorem ok_cut_messages : defB G t_cut_messages = true := by decide +kernel
theorem ok_Cutter___init__ : defB G t_Cutter___init__ = true := by decide +kernel
theorem ok_Cutter_fault : defB G t_Cutter_fault = true := by decide +kernel
theorem ok_Cutter_uncut : defB G t_Cutter_uncut = true := by decide +kernel
theorem ok_Cutter_feed : defB G t_Cutter_feed = true := by decide +kernel
theorem ok__law_cell : defB G t__law_cell = true := by decide +kernel
theorem ok__law_row : defB G t__law_row = true := by decide +kernel
theorem ok__law_message : defB G t__law_message = true := by decide +kernel
theorem ok__law_stream : defB G t__law_stream = true := by decide +kernel
theorem ok__law_cut : defB G t__law_cut = true := by decide +kernel
theorem ok_law : defB G t_law = true := by decide +kernel
theorem chk : T.all (defB G) = true := by
  unfold T
  simp only [List.all_cons, List.all_nil, ok_octets_number, ok_size_fits, ok_cut_messages, ok_Cutter___init__, ok_Cutter_fault, ok_Cutter_uncut, ok_Cutter_feed, ok__law_cell, ok__law_row, ok__law_message, ok__law_stream, ok__law_cut, ok_law, Bool.and_self]
theorem bd_octets_number : ∀ (kV doc pm : Value) (an : Option Addr) (cdv ct : Value) (us : List Value), us.length = t_octets_number.ps.length → bindArgs (PySem.W.fnOf t_octets_number.d.name t_octets_number.d.qual t_octets_number.d.params t_octets_number.d.body t_octets_number.d.scope .none kV doc pm an cdv ct) ⟨us, []⟩ = pure (t_octets_number.ps.zip us) :=
  fun _ _ _ _ _ _ us hl => match us, hl with | [_], _ => rfl
theorem bd_size_fits : ∀ (kV doc pm : Value) (an : Option Addr) (cdv ct : Value) (us : List Value), us.length = t_size_fits.ps.length → bindArgs (PySem.W.fnOf t_size_fits.d.name t_size_fits.d.qual t_size_fits.d.params t_size_fits.d.body t_size_fits.d.scope .none kV doc pm an cdv ct) ⟨us, []⟩ = pure (t_size_fits.ps.zip us) :=
  fun _ _ _ _ _ _ us hl => match us, hl with | [_], _ => rfl
theorem bd_cut_messages : ∀ (kV doc pm : Value) (an : Option Addr) (cdv ct : Value) (us : List Value), us.length = t_cut_messages.ps.length → bindArgs (PySem.W.fnOf t_cut_messages.d.name t_cut_messages.d.qual t_cut_messages.d.params t_cut_messages.d.body t_cut_messages.d.scope .none kV doc pm an cdv ct) ⟨us, []⟩ = pure (t_cut_messages.ps.zip us) :=
  fun _ _ _ _ _ _ us hl => match us, hl with | [_], _ => rfl
theorem bd_Cutter___init__ : ∀ (kV doc pm : Value) (an : Option Addr) (cdv ct : Value) (us : List Value), us.length = t_Cutter___init__.ps.length → bindArgs (PySem.W.fnOf t_Cutter___init__.d.name t_Cutter___init__.d.qual t_Cutter___init__.d.params t_Cutter___init__.d.body t_Cutter___init__.d.scope .none kV doc pm an cdv ct) ⟨us, []⟩ = pure (t_Cutter___init__.ps.zip us) :=
  fun _ _ _ _ _ _ us hl => match us, hl with | [_], _ => rfl
theorem bd_Cutter_fault : ∀ (kV doc pm : Value) (an : Option Addr) (cdv ct : Value) (us : List Value), us.length = t_Cutter_fault.ps.length → bindArgs (PySem.W.fnOf t_Cutter_fault.d.name t_Cutter_fault.d.qual t_Cutter_fault.d.params t_Cutter_fault.d.body t_Cutter_fault.d.scope .none kV doc pm an cdv ct) ⟨us, []⟩ = pure (t_Cutter_fault.ps.zip us) :=
  fun _ _ _ _ _ _ us hl => match us, hl with | [_], _ => rfl
theorem bd_Cutter_uncut : ∀ (kV doc pm : Value) (an : Option Addr) (cdv ct : Value) (us : List Value), us.length = t_Cutter_uncut.ps.length → bindArgs (PySem.W.fnOf t_Cutter_uncut.d.name t_Cutter_uncut.d.qual t_Cutter_uncut.d.params t_Cutter_uncut.d.body t_Cutter_uncut.d.scope .none kV doc pm an cdv ct) ⟨us, []⟩ = pure (t_Cutter_uncut.ps.zip us) :=
  fun _ _ _ _ _ _ us hl => match us, hl with | [_], _ => rfl
theorem bd_Cutter_feed : ∀ (kV doc pm : Value) (an : Option Addr) (cdv ct : Value) (us : List Value), us.length = t_Cutter_feed.ps.length → bindArgs (PySem.W.fnOf t_Cutter_feed.d.name t_Cutter_feed.d.qual t_Cutter_feed.d.params t_Cutter_feed.d.body t_Cutter_feed.d.scope .none kV doc pm an cdv ct) ⟨us, []⟩ = pure (t_Cutter_feed.ps.zip us) :=
  fun _ _ _ _ _ _ us hl => match us, hl with | [_, _], _ => rfl
theorem bd__law_cell : ∀ (kV doc pm : Value) (an : Option Addr) (cdv ct : Value) (us : List Value), us.length = t__law_cell.ps.length → bindArgs (PySem.W.fnOf t__law_cell.d.name t__law_cell.d.qual t__law_cell.d.params t__law_cell.d.body t__law_cell.d.scope .none kV doc pm an cdv ct) ⟨us, []⟩ = pure (t__law_cell.ps.zip us) :=
  fun _ _ _ _ _ _ us hl => match us, hl with | [_, _], _ => rfl
theorem bd__law_row : ∀ (kV doc pm : Value) (an : Option Addr) (cdv ct : Value) (us : List Value), us.length = t__law_row.ps.length → bindArgs (PySem.W.fnOf t__law_row.d.name t__law_row.d.qual t__law_row.d.params t__law_row.d.body t__law_row.d.scope .none kV doc pm an cdv ct) ⟨us, []⟩ = pure (t__law_row.ps.zip us) :=
  fun _ _ _ _ _ _ us hl => match us, hl with | [_, _], _ => rfl
theorem bd__law_message : ∀ (kV doc pm : Value) (an : Option Addr) (cdv ct : Value) (us : List Value), us.length = t__law_message.ps.length → bindArgs (PySem.W.fnOf t__law_message.d.name t__law_message.d.qual t__law_message.d.params t__law_message.d.body t__law_message.d.scope .none kV doc pm an cdv ct) ⟨us, []⟩ = pure (t__law_message.ps.zip us) :=
  fun _ _ _ _ _ _ us hl => match us, hl with | [_], _ => rfl
theorem bd__law_stream : ∀ (kV doc pm : Value) (an : Option Addr) (cdv ct : Value) (us : List Value), us.length = t__law_stream.ps.length → bindArgs (PySem.W.fnOf t__law_stream.d.name t__law_stream.d.qual t__law_stream.d.params t__law_stream.d.body t__law_stream.d.scope .none kV doc pm an cdv ct) ⟨us, []⟩ = pure (t__law_stream.ps.zip us) :=
  fun _ _ _ _ _ _ us hl => match us, hl with | [_, _], _ => rfl
theorem bd__law_cut : ∀ (kV doc pm : Value) (an : Option Addr) (cdv ct : Value) (us : List Value), us.length = t__law_cut.ps.length → bindArgs (PySem.W.fnOf t__law_cut.d.name t__law_cut.d.qual t__law_cut.d.params t__law_cut.d.body t__law_cut.d.scope .none kV doc pm an cdv ct) ⟨us, []⟩ = pure (t__law_cut.ps.zip us) :=
  fun _ _ _ _ _ _ us hl => match us, hl with | [_], _ => rfl
theorem bd_law : ∀ (kV doc pm : Value) (an : Option Addr) (cdv ct : Value) (us : List Value), us.length = t_law.ps.length → bindArgs (PySem.W.fnOf t_law.d.name t_law.d.qual t_law.d.params t_law.d.body t_law.d.scope .none kV doc pm an cdv ct) ⟨us, []⟩ = pure (t_law.ps.zip us) :=
  fun _ _ _ _ _ _ us hl => match us, hl with | [_], _ => rfl
theorem bnd : BindsAll T := ⟨bd_octets_number, bd_size_fits, bd_cut_messages, bd_Cutter___init__, bd_Cutter_fault, bd_Cutter_uncut, bd_Cutter_feed, bd__law_cell, bd__law_row, bd__law_message, bd__law_stream, bd__law_cut, bd_law, trivial⟩
def fn : List He.DefD := (T.filter fun t => !t.prop).map (·.d)
def prs : List He.DefD := (T.filter (·.prop)).map (·.d)
def fa : List He.Fa := faOf T G P cl ++ gs.map fun q => q.2.fct q.1
abbrev Rr : PySem.W.OpenRow := PySem.W.OpenLaw.row PySem.Challenge.rw_sillwatch_k08_cutter_in_portions
abbrev hk : PySem.W.Hook := hookP 6 fa fn (exOf gs) prs
def ob (s : PySem.W.SharedT) : He.AlX × (Bool × List He.FnW) := obsP 6 fa fn (exOf gs) prs (HandSHeadRun.getT s)
theorem ob_eq (s : PySem.W.SharedT) : ob s = hk.obs s.abs := by unfold ob; rw [funext (HandSHeadRun.getT_eq s)]; rfl
theorem run (w : World) : HandSHeadRun.RunEq Rr (PySem.W.view Rr.prog [14]) hk ob 6000 [("octets_number" : PySem.Str), ("HEADER" : PySem.Str), ("SIZE_MOST" : PySem.Str), ("size_fits" : PySem.Str), ("cut_messages" : PySem.Str), ("Cutter" : PySem.Str), ("_law_cell" : PySem.Str), ("_law_row" : PySem.Str), ("_law_message" : PySem.Str), ("_law_stream" : PySem.Str), ("_law_cut" : PySem.Str)] w := by
  intro os
  kernel_rfl
theorem facts {w : World} {K : PySem.W.Frag} {h : Heap} {mg : PySem.Str → Option Value} {f : Addr} (hlaw : ∀ ns : List Int, ns.length ≤ 63 → ∃ S1, callN P FUEL LEVEL 12 [.ref 0] [.fz (ns.map .int)] = .val (.bl true) S1) (X : K.In h) (Gx : h.Ns mainGlobals mg) (hfa : mg ("law" : PySem.Str) = some (.ref f)) (c : He.SaysX fa fn [] [] (exOf gs) w h K) (cp : SaysP prs K) :
    ∃ (fd : FuncData) (sp : Sp), (∀ (s : Shared) (v : Value), BindsTo s fd ⟨[v], []⟩ [("script", v)]) ∧ (∀ (H : Hp) (a : Addr) (ns : List Int), ns.length ≤ 63 → Only H → SqL K H a (ns.map V.int) → sp [.ref a] H (fun v _ => v = .bl true) fun _ _ _ => False) ∧
      ∀ base : Heap, K.In base → base.Ns mainGlobals mg → FnOk PySem.Challenge.pw_sillwatch_k08_cutter_in_portions w K mg base (CXw PySem.Challenge.pw_sillwatch_k08_cutter_in_portions) (2 * LEVEL) f fd ["script"] sp := by
  have hd : Hd ⟨K, G.nm, fnAd T K, clAd G K, cl⟩ G P T mg := hd_of (fa := fa) (fn := fn) (ps := prs) rfl rfl rfl rfl rfl rfl rfl chk bnd (by decide +kernel) X Gx c.t.d c.more rfl (by decide +kernel) (by decide +kernel) cp
  obtain ⟨hg, _⟩ := hd.glob 12 "law" rfl
  have e := hfa.symm.trans hg
  cases e
  obtain ⟨fd, hF⟩ := hd.funs 12 t_law rfl
  obtain ⟨fd, F, _, _, F2⟩ := fn_level (prog := PySem.Challenge.pw_sillwatch_k08_cutter_in_portions) (w := w) (base := h) (n := FUEL) hd LEVEL 12 t_law rfl
  have b := FunD.bindsA (ps := ["script"]) F2 (bd_law)
  refine ⟨fd, spI ⟨K, G.nm, fnAd T K, clAd G K, cl⟩ (callN P FUEL LEVEL) 12, fun s v => b s [v] rfl, fun H a ns hn hO hS => law_sp hlaw H a ns hn hO hS, fun base h1 h2 => ?_⟩
  obtain ⟨fd', F', _, _, F3⟩ := fn_level (prog := PySem.Challenge.pw_sillwatch_k08_cutter_in_portions) (w := w) (base := base) (n := FUEL) hd LEVEL 12 t_law rfl
  have e := FunD.same F2 F3
  subst e
  exact FnOk.cx F' fun o H s E u s' z => ⟨w, z⟩
end Lk08E
set_option linter.all false
set_option autoImplicit false
/-! The pure machine: lists and dicts are values, with a flag for who may change them; objects alone stand in a store. -/
namespace PyM
open PyI
inductive Ow where
  | no | own | lent
  deriving DecidableEq
/-- a pure value; scr: the law's own list, that nobody changes; tkn: what stands in a place whose list was handed over -/
inductive Vl where
  | non | bl (b : Bool) | int (i : Int) | str (x : Str) | tup (us : List Vl) | lst (o : Ow) (us : List Vl) | dct (o : Ow) (kvs : List (Key × Vl)) | obj (i : Nat) | fn (f : Nat) | tkn | scr (us : List Vl)
abbrev VE := List (Option Vl)
abbrev OS := List (Nat × List (Nat × Vl))
inductive RP (α : Type) where
  | val (a : α) (env : VE) (S : OS) | exc (c : Nat) (env : VE) (S : OS) | stuck
def RP.bind {α β : Type} : RP α → (α → VE → OS → RP β) → RP β
  | .val a env S, f => f a env S
  | .exc c env S, _ => .exc c env S
  | .stuck, _ => .stuck
def ofP {α : Type} (env : VE) (S : OS) : Option α → RP α
  | some a => .val a env S
  | none => .stuck
inductive OP where
  | nx (env : VE) (S : OS) | rt (u : Vl) (env : VE) (S : OS) | bk (env : VE) (S : OS) | ct (env : VE) (S : OS)
  | exc (c : Nat) (env : VE) (S : OS) | stuck
def RP.out {α : Type} : RP α → (α → VE → OS → OP) → OP
  | .val a env S, f => f a env S
  | .exc c env S, _ => .exc c env S
  | .stuck, _ => .stuck

/-! ### values -/
def frz : Vl → Vl
  | .lst .own us => .lst .no us
  | .dct .own kvs => .dct .no kvs
  | v => v
inductive Kk where
  | flat | own | bad
/-- what has to be done to keep a value -/
def kd : Vl → Kk
  | .lst .own _ => .own
  | .dct .own _ => .own
  | .lst .lent _ => .bad
  | .dct .lent _ => .bad
  | .tkn => .bad
  | .scr _ => .bad
  | _ => .flat
def datVs (f : Vl → Option PySem.PyData) : List Vl → Option (List PySem.PyData) := fun us => seqO (us.map f)
def datP : Nat → Vl → Option PySem.PyData
  | 0, u => match u with
    | .non => some .none
    | .bl b => some (.bool b)
    | .int i => some (.int i)
    | .str x => if PySem.PyData.strOk x then some (.str x) else none
    | _ => none
  | n + 1, u => match u with
    | .non => some .none
    | .bl b => some (.bool b)
    | .int i => some (.int i)
    | .str x => if PySem.PyData.strOk x then some (.str x) else none
    | .tup us => (seqO (us.map (datP n))).map .tuple
    | .lst _ us => (seqO (us.map (datP n))).map .list
    | _ => none
def eqDP (u w : Vl) : Option Bool := match datP DEPTH u, datP DEPTH w with
  | some d, some e => some (PySem.PyData.eqv d e)
  | _, _ => none
def eqP : Vl → Vl → Option Bool
  | .int i, .int j => some (decide (i = j))
  | .str x, .str y => some (decide (x = y))
  | .str _, .non => some false
  | .non, .str _ => some false
  | u, w => eqDP u w
def itemsP : Vl → Option (List Vl)
  | .tup us => some us
  | .lst _ us => some us
  | .scr us => some us
  | _ => none
def truP : Vl → Option Bool
  | .non => some false
  | .bl b => some b
  | .int i => some (i != 0)
  | .str x => if x.length ≤ LINE then some (x.length != 0) else none
  | .tup us => some (!us.isEmpty)
  | .lst _ us => some (!us.isEmpty)
  | .dct _ kvs => some (!kvs.isEmpty)
  | .scr us => some (!us.isEmpty)
  | _ => none
def newP (us : List Vl) : Option Vl := if us.length ≤ LINE then some (.lst .own us) else none
def binP : Bop → Vl → Vl → Option Vl
  | .add, .int i, .int j => some (.int (i + j))
  | .add, .str x, .str y => if x.length + y.length ≤ LINE then some (.str (x ++ y)) else none
  | .add, .tup us, .tup ws => if us.length + ws.length ≤ LINE then some (.tup (us ++ ws)) else none
  | .add, .lst _ us, .lst _ ws => newP (us ++ ws)
  | .sub, .int i, .int j => some (.int (i - j))
  | .mul, .int i, .int j => if i.natAbs < 18446744073709551616 ∨ j.natAbs < 18446744073709551616 then some (.int (i * j)) else none
  | .mul, .str x, .int k => if 1 < k ∧ 0 < x.length ∧ x.length * k.toNat ≤ LINE then some (.str (repS x k)) else none
  | .mul, .lst _ us, .int k => if k.natAbs < 9223372036854775808 then newP (List.replicate k.toNat us).flatten else none
  | .fdiv, .int i, .int j => if 0 < j ∧ j < 18446744073709551616 then some (.int (i / j)) else none
  | .mod, .int i, .int j => if 0 < j then some (.int (i % j)) else none
  | .band, .int i, .int j => if j = 255 then some (.int (i % 256)) else none
  | _, _, _ => none
def flP : Vl → Bool
  | .non => true
  | .bl _ => true
  | .int _ => true
  | .str _ => true
  | _ => false
def eqFP : Vl → Vl → Bool
  | .non, .non => true
  | .bl a, .bl b => a == b
  | .bl a, .int b => (if a then 1 else 0) == b
  | .int a, .bl b => a == (if b then 1 else 0)
  | .int a, .int b => a == b
  | .str a, .str b => a == b
  | _, _ => false
def memIP (x y : Vl) : Option Bool := match itemsP y with
  | some us => if flP x = true ∧ us.all flP = true then some (us.any fun z => eqFP z x) else match y with
    | .lst _ _ => match datP DEPTH x, datP DEPTH y with
      | some d, some (.list ds) => some (ds.any fun z => PySem.PyData.eqv z d)
      | _, _ => none
    | _ => none
  | none => none
def keyP : Vl → Option Key
  | .int i => some (.i i)
  | .str x => some (.s x)
  | _ => none
def keyV : Key → Vl
  | .i k => .int k
  | .s x => .str x
def dctP : Vl → Option (List (Key × Vl))
  | .dct _ kvs => some kvs
  | _ => none
def pairsP : List Vl → Option (List (Key × Vl))
  | [] => some []
  | k :: v :: r => match keyP k, pairsP r with
    | some q, some kvs => some ((q, v) :: kvs)
    | _, _ => none
  | _ => none
def memDP (x y : Vl) : Option Bool := match dctP y, keyP x with
  | some kvs, some k => some (getK k kvs).isSome
  | _, _ => none
def memP : Vl → Vl → Option Bool
  | .str a, .str b => match a.cps.toList with
    | [c] => some (decide (c ∈ b.cps.toList))
    | _ => none
  | x, y => match dctP y with
    | some _ => memDP x y
    | none => memIP x y
def cmpP : Cop → Vl → Vl → Option Bool
  | .eq, x, y => eqP x y
  | .ne, x, y => (eqP x y).map (!·)
  | .lt, .int i, .int j => some (decide (i < j))
  | .le, .int i, .int j => some (decide (i ≤ j))
  | .gt, .int i, .int j => some (decide (j < i))
  | .ge, .int i, .int j => some (decide (j ≤ i))
  | .isN, .non, .non => some true
  | .isN, .fn _, _ => none
  | .isN, .tkn, _ => none
  | .isN, _, .non => some false
  | .notN, .non, .non => some false
  | .notN, .fn _, _ => none
  | .notN, .tkn, _ => none
  | .notN, _, .non => some true
  | .mem, x, y => memP x y
  | .nmem, x, y => (memP x y).map (!·)
  | .is, .bl a, .bl b => some (decide (a = b))
  | .isnot, .bl a, .bl b => some (!decide (a = b))
  | _, _, _ => none
def ixP : Vl → Vl → Option Vl
  | .str x, .int i => if x.length ≤ LINE then (atU x.cps.toList i).map fun c => .str ⟨#[c]⟩ else none
  | .lst _ us, .int i => atU us i
  | .tup us, .int i => atU us i
  | .scr us, .int i => atU us i
  | .dct _ kvs, k => match keyP k with
    | some q => getK q kvs
    | none => none
  | _, _ => none
def cutP (x : Vl) (lo hi : Option Int) : Option Vl := match x with
  | .str x => if x.length ≤ LINE then some (.str ⟨(cutU x.cps.toList lo hi).toArray⟩) else none
  | .tup us => some (.tup (cutU us lo hi))
  | .lst _ us => some (.lst .own (cutU us lo hi))
  | .scr us => some (.lst .own (cutU us lo hi))
  | _ => none
def asIntsP : List Vl → Option (List Int)
  | [] => some []
  | .int i :: us => (asIntsP us).map (i :: ·)
  | _ :: _ => none
def asBlsP : List Vl → Option (List Bool)
  | [] => some []
  | .bl b :: us => (asBlsP us).map (b :: ·)
  | _ :: _ => none
def asStrsP : List Vl → Option (List Str)
  | [] => some []
  | .str b :: us => (asStrsP us).map (b :: ·)
  | _ :: _ => none
def lenP : Vl → Option Nat
  | .str x => if x.length ≤ LINE then some x.length else none
  | .tup us => some us.length
  | .lst _ us => some us.length
  | .scr us => some us.length
  | .dct _ kvs => some kvs.length
  | _ => none
@[simp] def isiP : Vl → Ty → Option Bool
  | .int _, .int => some true
  | .bl _, .int => some true
  | .str _, .int => some false
  | .non, .int => some false
  | .tup _, .int => some false
  | .bl _, .bool => some true
  | .int _, .bool => some false
  | .str _, .bool => some false
  | .non, .bool => some false
  | .tup _, .bool => some false
  | .str _, .str => some true
  | .int _, .str => some false
  | .non, .str => some false
  | .tup _, .str => some false
  | .bl _, .str => some false
  | .tup _, .tuple => some true
  | .int _, .tuple => some false
  | .str _, .tuple => some false
  | .non, .tuple => some false
  | .bl _, .tuple => some false
  | .tup _, .list => some false
  | .int _, .list => some false
  | .str _, .list => some false
  | .non, .list => some false
  | .bl _, .list => some false
  | .lst _ _, .list => some true
  | .lst _ _, .int => some false
  | .lst _ _, .bool => some false
  | .lst _ _, .str => some false
  | .lst _ _, .tuple => some false
  | _, _ => none
def biP : Bi → List Vl → Option Vl
  | .len, [x] => (lenP x).map fun (n : Nat) => .int (n : Int)
  | .int, [.int i] => some (.int i)
  | .int, [.bl b] => some (.int (if b then 1 else 0))
  | .abs, [.int i] => some (.int (if i < 0 then -i else i))
  | .min, [.int i, .int j] => some (.int (if j < i then j else i))
  | .max, [.int i, .int j] => some (.int (if j > i then j else i))
  | .max, [.int i, .int j, .int k] => some (.int (if (if i < j then j else i) < k then k else (if i < j then j else i)))
  | .minL, [.lst _ us] => ((asIntsP us).bind List.min?).map .int
  | .sum, [.lst _ us] => (asIntsP us).map fun ns => .int ns.sum
  | .all, [.lst _ us] => (asBlsP us).map fun bs => .bl (bs.all id)
  | .any, [.lst _ us] => (asBlsP us).map fun bs => .bl (bs.any id)
  | .list, [x] => match itemsP x with
    | some us => some (.lst .own us)
    | none => (dctP x).map fun kvs => .lst .own (kvs.map fun p => keyV p.1)
  | .dictOf, [x] => (dctP x).map (.dct .own)
  | .tuple, [.tup us] => some (.tup us)
  | .tuple, [.lst _ us] => some (.tup us)
  | .sorted, [.lst _ us] => match asIntsP us with
    | some ns => some (.lst .own ((sortI ns).map .int))
    | none => match asStrsP us with
      | some xs => if xs.length < 64 then some (.lst .own ((sortS xs).map .str)) else none
      | none => none
  | .isi t, [x] => (isiP x t).map .bl
  | .ord, [.str x] => match x.cps.toList with
    | [c] => some (.int c)
    | _ => none
  | .str, [.int i] => if i.natAbs.log2 < 1920 then some (.str (PySem.Str.ofString (toString i))) else none
  | .rvl, [.lst _ us] => some (.lst .own us.reverse)
  | _, _ => none
/-- methods that change their list -/
@[simp] def mutB : Bm → Bool
  | .append => true
  | .extend => true
  | .pop => true
  | .popAt => true
  | .insert => true
  | .dpop => true
  | .dpop2 => true
  | _ => false
/-- what a dict's method gives and leaves -/
def bdM : Bm → List (Key × Vl) → List Vl → Option (Vl × List (Key × Vl))
  | .dpop, kvs, [y] => match keyP y with
    | some k => (getK k kvs).map fun u => (u, dropKV k kvs)
    | none => none
  | .dpop2, kvs, [y, z] => match keyP y with
    | some k => match getK k kvs with
      | some u => some (u, dropKV k kvs)
      | none => some (z, kvs)
    | none => none
  | _, _, _ => none
def bmM : Bm → List Vl → List Vl → Option (Vl × List Vl)
  | .append, us, [u] => if us.length < LINE then some (.non, us ++ [u]) else none
  | .extend, us, [.lst _ ws] => if us.length + ws.length ≤ LINE then some (.non, us ++ ws) else none
  | .pop, us, [] => us.getLast?.map fun u => (u, us.dropLast)
  | .popAt, us, [.int i] => if 0 ≤ i ∧ i < 9223372036854775808 then us[i.toNat]?.map fun u => (u, us.eraseIdx i.toNat) else none
  | .insert, us, [.int i, u] => if us.length < LINE ∧ 0 ≤ i ∧ i < 9223372036854775808 then some (.non, us.take i.toNat ++ [u] ++ us.drop i.toNat) else none
  | _, _, _ => none
/-- methods that read -/
def bmP : Bm → Vl → List Vl → Option Vl
  | .index, .lst _ us, [u] => if flP u = true ∧ us.all flP = true then (us.findIdx? (fun z => eqFP z u)).map fun j => .int (j : Int) else none
  | .join, .str a, [.lst _ us] => match asStrsP us with
    | some ys => if (ys.map (·.length)).sum + ys.length * a.length ≤ LINE then some (.str (PySem.Builtin.Str.glued a ys)) else none
    | none => none
  | .get, .dct _ kvs, [y] => match keyP y with
    | some k => some ((getK k kvs).getD .non)
    | none => none
  | .get2, .dct _ kvs, [y, z] => match keyP y with
    | some k => if flP z = true then some ((getK k kvs).getD z) else none
    | none => none
  | _, _, _ => none
@[simp] def tyP : Bm → Vl → Bool
  | .index, .lst _ _ => true
  | .join, .str _ => true
  | .get, .dct _ _ => true
  | .get2, .dct _ _ => true
  | _, _ => false
def toV : U → Option Vl
  | .non => some .non
  | .bl b => some (.bl b)
  | .int i => some (.int i)
  | .str x => some (.str x)
  | .tup us => (flats us).map .tup
  | _ => none
where flats : List U → Option (List Vl)
  | [] => some []
  | .int i :: us => (flats us).map (.int i :: ·)
  | .str i :: us => (flats us).map (.str i :: ·)
  | _ :: _ => none

/-! ### places -/
inductive Pl where
  | var (i : Nat) | fld (o f : Nat)
  deriving DecidableEq
def getF (S : OS) (o f : Nat) : Option Vl := match S[o]? with
  | some (_, fs) => fs.lookup f
  | none => none
def repF (f : Nat) (v : Vl) : List (Nat × Vl) → List (Nat × Vl)
  | [] => []
  | (g, w) :: r => if g = f then (g, v) :: r else (g, w) :: repF f v r
def setF (S : OS) (o f : Nat) (v : Vl) : OS := match S[o]? with
  | some (c, fs) => S.set o (c, repF f v fs)
  | none => S
@[simp] def getP (env : VE) (S : OS) : Pl → Option Vl
  | .var i => env[i]?.join
  | .fld o f => getF S o f
@[simp] def putE (env : VE) : Pl → Vl → VE
  | .var i, v => env.set i (some v)
  | .fld _ _, _ => env
@[simp] def putS (S : OS) : Pl → Vl → OS
  | .var _, _ => S
  | .fld o f, v => setF S o f v
/-- a place is read for a while: nobody may change it -/
@[simp] def lend (p : Pl) (env : VE) (S : OS) : RP (Vl × Option Pl) := match getP env S p with
  | some (.lst .own us) => .val (.lst .lent us, some p) (putE env p (.lst .lent us)) (putS S p (.lst .lent us))
  | some (.dct .own us) => .val (.dct .lent us, some p) (putE env p (.dct .lent us)) (putS S p (.dct .lent us))
  | some .tkn => .stuck
  | some v => .val (v, none) env S
  | none => .stuck
@[simp] def unlend (p : Pl) (env : VE) (S : OS) : RP Unit := match getP env S p with
  | some (.lst .lent us) => .val () (putE env p (.lst .own us)) (putS S p (.lst .own us))
  | some (.dct .lent us) => .val () (putE env p (.dct .own us)) (putS S p (.dct .own us))
  | _ => .stuck
def unlends : List Pl → VE → OS → RP Unit
  | [], env, S => .val () env S
  | p :: ps, env, S => (unlend p env S).bind fun _ env S => unlends ps env S
/-- a place is kept: frozen, if it was owned -/
@[simp] def keepP (p : Pl) (env : VE) (S : OS) : RP Vl := match getP env S p with
  | some v => match kd v with
    | .flat => .val v env S
    | .own => .val (frz v) (putE env p (frz v)) (putS S p (frz v))
    | .bad => .stuck
  | none => .stuck
@[simp] def readP (p : Pl) (env : VE) (S : OS) : RP Vl := match getP env S p with
  | some .tkn => .stuck
  | some v => .val v env S
  | none => .stuck
/-- a list is handed over to be changed -/
@[simp] def takeP (p : Pl) (env : VE) (S : OS) : RP (Vl × Option Pl) := match getP env S p with
  | some v => match kd v with
    | .flat => .val (v, none) env S
    | .own => .val (v, some p) (putE env p .tkn) (putS S p .tkn)
    | .bad => .stuck
  | none => .stuck
@[simp] def giveP (p : Pl) (v : Vl) (env : VE) (S : OS) : RP Unit := match getP env S p with
  | some .tkn => match kd v with
    | .bad => .stuck
    | _ => .val () (putE env p v) (putS S p v)
  | _ => .stuck

/-! ### expressions that change nothing that stands -/
mutual
@[simp] def quiet : E → Bool
  | .var _ => true | .int _ => true | .str _ => true | .bl _ => true | .non => true | .glo _ => true | .fnv _ => true | .mov _ => true
  | .bin _ a b => quiet a && quiet b
  | .neg a => quiet a
  | .cmp _ a b => quiet a && quiet b
  | .cmp2 _ _ a b c => quiet a && (quiet b && quiet c)
  | .and a b => quiet a && quiet b
  | .or a b => quiet a && quiet b
  | .not a => quiet a
  | .ife c a b => quiet c && (quiet a && quiet b)
  | .tup es => quiets es
  | .lst es => quiets es
  | .ix a b => quiet a && quiet b
  | .cut a lo hi => quiet a && (quietO lo && quietO hi)
  | .fld a _ => quiet a
  | .bi _ es => quiets es
  | .bm b o es => !mutB b && (quiet o && quiets es)
  | .dict0 => true
  | .stk => true
  | .esc _ _ _ _ _ _ => true
  | .dctL _ => false
  | .call _ _ => false | .callv _ _ => false | .meth _ _ _ => false | .mk _ _ => false
  | .comp _ _ _ _ _ => false | .comp2 _ _ _ _ _ _ _ _ _ => false
@[simp] def quiets : Es → Bool
  | .nil => true
  | .cons e r => quiet e && quiets r
@[simp] def quietO : Eo → Bool
  | .none => true
  | .some e => quiet e
end
/-- a chain of names, read -/
@[simp] def valE (env : VE) (S : OS) : E → Option Vl
  | .var i => env[i]?.join
  | .mov i => env[i]?.join
  | .fld a f => match valE env S a with
    | some (.obj n) => getF S n f
    | _ => none
  | _ => none
/-- the place that an expression names -/
@[simp] def plc (env : VE) (S : OS) : E → Option Pl
  | .var i => some (.var i)
  | .mov i => some (.var i)
  | .fld a f => match valE env S a with
    | some (.obj n) => some (.fld n f)
    | _ => none
  | _ => none
@[simp] def lnd (p : Option Pl) (env : VE) (S : OS) (r : RP Vl) : RP (Vl × Option Pl) := match p with
  | some p => lend p env S
  | none => r.bind fun u env S => .val (u, none) env S
@[simp] def tak (p : Option Pl) (env : VE) (S : OS) (r : RP Vl) : RP (Vl × Option Pl) := match p with
  | some p => takeP p env S
  | none => r.bind fun u env S => .val (u, none) env S

/-! ### loops -/
@[simp] def bindP : Tg → Vl → VE → Option VE
  | .nm i, u, env => some (env.set i (some u))
  | .tp ts, .tup us, env => if ts.length = us.length then some ((ts.zip us).foldl (fun e p => e.set p.1 (some p.2)) env) else none
  | _, _, _ => none
def wipeP (env : VE) : List Nat → VE
  | [] => env
  | v :: vs => (wipeP env vs).set v none
/-- names of a comprehension get back what stood in them -/
def backP (old env : VE) : List Nat → VE
  | [] => env
  | v :: vs => match old[v]? with
    | some o => (backP old env vs).set v o
    | none => backP old env vs
structure SqP where
  items : List Vl
  back : List Pl
def loopFP (t : Tg) (b : VE → OS → OP) : List Vl → VE → OS → OP
  | [], env, S => .nx env S
  | u :: us, env, S => match bindP t u env with
    | none => .stuck
    | some env1 => match b env1 S with
      | .nx e S1 => loopFP t b us e S1
      | .ct e S1 => loopFP t b us e S1
      | .bk e S1 => .nx e S1
      | o => o
def loopWP (c : VE → OS → RP Bool) (b : VE → OS → OP) : Nat → VE → OS → OP
  | 0, _, _ => .stuck
  | n + 1, env, S => (c env S).out fun k env S1 => if k then (match b env S1 with
      | .nx e S2 => loopWP c b n e S2
      | .ct e S2 => loopWP c b n e S2
      | .bk e S2 => .nx e S2
      | o => o) else .nx env S1
def loopCP (t : Tg) (own : List Nat) (c : VE → OS → RP Bool) (e : VE → OS → RP Vl) : List Vl → List Vl → VE → OS → RP (List Vl)
  | [], acc, env, S => .val acc env S
  | u :: us, acc, env, S => match bindP t u (wipeP env own) with
    | none => .stuck
    | some env1 => (c env1 S).bind fun k env1 S1 => if k then (e env1 S1).bind fun y env1 S2 => if acc.length < LINE then loopCP t own c e us (acc ++ [frz y]) env1 S2 else .stuck
      else loopCP t own c e us acc env1 S1
def loopGP (t : Tg) (own : List Nat) (b : List Vl → VE → OS → RP (List Vl)) : List Vl → List Vl → VE → OS → RP (List Vl)
  | [], acc, env, S => .val acc env S
  | u :: us, acc, env, S => match bindP t u (wipeP env own) with
    | none => .stuck
    | some env1 => (b acc env1 S).bind fun acc env1 S1 => loopGP t own b us acc env1 S1
/-- whatever comes: the lent places are given back -/
def endO (ps : List Pl) : OP → OP
  | .nx env S => (unlends ps env S).out fun _ env S => .nx env S
  | .rt u env S => (unlends ps env S).out fun _ env S => .rt u env S
  | .bk env S => (unlends ps env S).out fun _ env S => .bk env S
  | .ct env S => (unlends ps env S).out fun _ env S => .ct env S
  | .exc c env S => (unlends ps env S).out fun _ env S => .exc c env S
  | .stuck => .stuck
def noXP {α : Type} : RP α → RP α
  | .val a env S => .val a env S
  | _ => .stuck
/-- a call's answer: the value, the arguments' slots behind it, the objects -/
inductive RC where
  | val (u : Vl) (args : VE) (S : OS) | exc (c : Nat) (args : VE) (S : OS) | stuck
/-- the same with the caller's names -/
inductive RV where
  | val (u : Vl) (args : VE) (env : VE) (S : OS) | exc (c : Nat) (args : VE) (env : VE) (S : OS) | stuck
def RC.up (env : VE) : RC → RV
  | .val u args S => .val u args env S
  | .exc c args S => .exc c args env S
  | .stuck => .stuck
def RV.dn : RV → RP Vl
  | .val u _ env S => .val u env S
  | .exc c _ env S => .exc c env S
  | .stuck => .stuck
/-- an argument's evaluation fails, or the call goes on -/
def RP.arg {α : Type} : RP α → (α → VE → OS → RV) → RV
  | .val a env S, f => f a env S
  | .exc c env S, _ => .exc c [] env S
  | .stuck, _ => .stuck
/-- behind the call: the lent place is owned again -/
def RV.un (p : Pl) : RV → RV
  | .val u args env S => (unlend p env S).arg fun _ env S => .val u args env S
  | .exc c args env S => (unlend p env S).arg fun _ env S => .exc c args env S
  | .stuck => .stuck
/-- behind the call: the place gets its list back (an argument that failed leaves it empty) -/
def RV.gv (p : Pl) (j : Nat) : RV → RV
  | .val u args env S => match args[j]?.join with
    | some v => (giveP p v env S).arg fun _ env S => .val u args env S
    | none => .stuck
  | .exc c args env S => match args[j]?.join with
    | some v => (giveP p v env S).arg fun _ env S => .exc c args env S
    | none => .stuck
  | .stuck => .stuck
def lendA (r : RP (Vl × Option Pl)) (k : Vl → VE → OS → RV) : RV := r.arg fun x env S => match x.2 with
  | some p => (k x.1 env S).un p
  | none => k x.1 env S
def takeA (j : Nat) (r : RP (Vl × Option Pl)) (k : Vl → VE → OS → RV) : RV := r.arg fun x env S => match x.2 with
  | some p => (k x.1 env S).gv p j
  | none => k x.1 env S
/-- lent for a while -/
def lendDo {α : Type} (p : Pl) (env : VE) (S : OS) (k : VE → OS → RP α) : RP α := (lend p env S).bind fun x env S => match x.2 with
  | some p => match k env S with
    | .val a env S => (unlend p env S).bind fun _ env S => .val a env S
    | .exc c env S => (unlend p env S).bind fun _ env S => .exc c env S
    | .stuck => .stuck
  | none => .stuck
@[simp] def tgN : Tg → List Nat
  | .nm i => [i]
  | .tp ts => ts
/-- a comprehension's names hold nothing that is owned -/
def freeOf (env : VE) (t : Tg) (own : List Nat) : Bool := ((tgN t).all fun i => own.contains i) && own.all fun i => match env[i]?.join with
  | some v => match kd v with
    | .flat => true
    | _ => false
  | none => true
def setiP (us : List Vl) (i u : Vl) : Option (List Vl) := match i with
  | .int k => if 0 ≤ k then (if k < us.length then some (us.set k.toNat u) else none)
    else if -(us.length : Int) ≤ k then some (us.set (k + us.length).toNat u) else none
  | _ => none
@[simp] def mutAt (b : Bm) (p : Pl) (us : List Vl) (env : VE) (S : OS) : RP Vl := match getP env S p with
  | some (.lst .own ws) => match bmM b ws us with
    | some (r, ws1) => .val r (putE env p (.lst .own ws1)) (putS S p (.lst .own ws1))
    | none => .stuck
  | some (.dct .own ws) => match bdM b ws us with
    | some (r, ws1) => .val r (putE env p (.dct .own ws1)) (putS S p (.dct .own ws1))
    | none => .stuck
  | _ => .stuck
@[simp] def setAt (p : Pl) (i u : Vl) (env : VE) (S : OS) : OP := match getP env S p with
  | some (.lst .own us) => match setiP us i (frz u) with
    | some us1 => .nx (putE env p (.lst .own us1)) (putS S p (.lst .own us1))
    | none => .stuck
  | some (.dct .own kvs) => match keyP i with
    | some k => if kvs.length < LINE then .nx (putE env p (.dct .own (putKV k (frz u) kvs))) (putS S p (.dct .own (putKV k (frz u) kvs))) else .stuck
    | none => .stuck
  | _ => .stuck
@[simp] def delAt (p : Pl) (i : Vl) (env : VE) (S : OS) : OP := match getP env S p with
  | some (.dct .own kvs) => match keyP i with
    | some k => if (getK k kvs).isSome = true then .nx (putE env p (.dct .own (dropKV k kvs))) (putS S p (.dct .own (dropKV k kvs))) else .stuck
    | none => .stuck
  | _ => .stuck
/-- the owned thing that a method changes -/
@[simp] def dB : Bm → Bool
  | .dpop => true
  | .dpop2 => true
  | _ => false
@[simp] def ownM (b : Bm) : Option Vl → Bool
  | some (.lst .own _) => !dB b
  | some (.dct .own _) => dB b
  | _ => false
/-- a list, a dict that is owned -/
@[simp] def ownB : Option Vl → Bool
  | some (.lst .own _) => true
  | some (.dct .own _) => true
  | _ => false

/-! ### the machine -/
variable (P : Pg) (cf : Nat → List Vl → OS → RC)
/-- a method, a constructor called -/
def lfM (f i : Nat) (args : List Vl) (S : OS) : RC := match cf f (.obj i :: args) S with
  | .val u as S1 => .val u as.tail S1
  | .exc c as S1 => .exc c as.tail S1
  | .stuck => .stuck
def lfK (f c : Nat) (args : List Vl) (S : OS) : RC := match cf f (.obj S.length :: args) (S ++ [(c, [])]) with
  | .val .non as S1 => .val (.obj S.length) as.tail S1
  | .val _ _ _ => .stuck
  | .exc x as S1 => .exc x as.tail S1
  | .stuck => .stuck
@[simp] def mdOf (P : Pg) (f : Nat) : List Md := match P.fns[f]? with
  | some fn => fn.md
  | none => []
mutual
@[simp] def evP (k : Bool) : E → VE → OS → RP Vl
  | .var i, env, S => if k then keepP (.var i) env S else readP (.var i) env S
  | .mov i, env, S => if k then (match env[i]?.join with
      | some v => match kd v with
        | .flat => .val v env S
        | .own => .val v (env.set i none) S
        | .bad => .stuck
      | none => .stuck) else readP (.var i) env S
  | .int i, env, S => .val (.int i) env S
  | .str s, env, S => .val (.str s) env S
  | .bl b, env, S => .val (.bl b) env S
  | .non, env, S => .val .non env S
  | .esc i q a b c d, env, S => match env[i]?.join with
    | some (.str x) => ofP env S ((escS q a b c d x).map .str)
    | _ => .stuck
  | .glo g, env, S => ofP env S (P.glo[g]?.bind toV)
  | .fnv f, env, S => .val (.fn f) env S
  | .bin o a b, env, S => (evP (!quiet b) a env S).bind fun x env S => (evP false b env S).bind fun y env S => ofP env S (binP o x y)
  | .neg a, env, S => (evP false a env S).bind fun x env S => match x with
    | .int i => .val (.int (-i)) env S
    | _ => .stuck
  | .cmp o a b, env, S => (evP (!quiet b) a env S).bind fun x env S => (evP false b env S).bind fun y env S => ofP env S ((cmpP o x y).map .bl)
  | .cmp2 o p a b c, env, S => (evP (!(quiet b && quiet c)) a env S).bind fun x env S => (evP (!quiet c) b env S).bind fun y env S => match cmpP o x y with
    | some true => (evP false c env S).bind fun z env S => ofP env S ((cmpP p y z).map .bl)
    | some false => .val (.bl false) env S
    | none => .stuck
  | .and a b, env, S => (evP k a env S).bind fun x env S => match truP x with
    | some true => evP k b env S
    | some false => .val x env S
    | none => .stuck
  | .or a b, env, S => (evP k a env S).bind fun x env S => match truP x with
    | some true => .val x env S
    | some false => evP k b env S
    | none => .stuck
  | .not a, env, S => (evP false a env S).bind fun x env S => ofP env S ((truP x).map fun b => .bl (!b))
  | .ife c a b, env, S => (evP false c env S).bind fun x env S => match truP x with
    | some true => evP k a env S
    | some false => evP k b env S
    | none => .stuck
  | .tup es, env, S => (evsP true es env S).bind fun us env S => if us.length ≤ LINE then .val (.tup us) env S else .stuck
  | .lst es, env, S => (evsP true es env S).bind fun us env S => ofP env S (newP us)
  | .ix a b, env, S => (evP (!quiet b) a env S).bind fun x env S => (evP false b env S).bind fun y env S => ofP env S (ixP x y)
  | .cut a lo hi, env, S => (evP (!(quietO lo && quietO hi)) a env S).bind fun x env S => (evoP lo env S).bind fun i env S => (evoP hi env S).bind fun j env S => ofP env S (cutP x i j)
  | .fld a f, env, S => (evP false a env S).bind fun x env S => match x with
    | .obj o => if k then keepP (.fld o f) env S else readP (.fld o f) env S
    | _ => .stuck
  | .call f es, env, S => (evcP (cf f) (mdOf P f) es [] env S).dn
  | .callv x es, env, S => match env[x]?.join with
    | some (.fn f) => (evcP (cf f) (mdOf P f) es [] env S).dn
    | _ => .stuck
  | .meth m o es, env, S => (evP false o env S).bind fun x env S => match x with
    | .obj i => match S[i]? with
      | some (c, fs) => match P.meths.lookup (c, m), fs.lookup m with
        | some f, none => (evcP (lfM cf f i) (mdOf P f).tail es [] env S).dn
        | _, _ => .stuck
      | _ => .stuck
    | _ => .stuck
  | .mk c es, env, S => match P.inits.lookup c with
    | some f => (evcP (lfK cf f c) (mdOf P f).tail es [] env S).dn
    | none => .stuck
  | .bi b es, env, S => (evsP false es env S).bind fun us env S => ofP env S (biP b us)
  | .bm b o es, env, S => if mutB b then (match plc env S o with
      | some p => (if ownM b (getP env S p) then (if quiets es then (evsP true es env S).bind fun us env S => mutAt b p us env S
            else (lendDo p env S fun env S => evsP true es env S).bind fun us env S => mutAt b p us env S)
          else .stuck)
      | none => .stuck)
      else (evP (!quiets es) o env S).bind fun x env S => (if tyP b x then evsP false es env S else .stuck).bind fun us env S => ofP env S (bmP b x us)
  | .comp own t it c e, env, S => (eviP it env S).bind fun q env0 S => if freeOf env0 t own then (noXP (loopCP t own (evcP' c) (evP true e) q.items [] env0 S)).bind fun us env1 S => (unlends q.back (backP env0 env1 own) S).bind fun _ env S => .val (.lst .own us) env S else .stuck
  | .comp2 own t it c own1 t1 it1 c1 e, env, S => (eviP it env S).bind fun q env0 S => if freeOf env0 t own then (noXP (loopGP t own (fun acc env1 S1 => (evcP' c env1 S1).bind fun k env1 S1 => if k then (eviP it1 env1 S1).bind fun q1 env1 S2 => if freeOf env1 t1 own1 && q1.back.isEmpty then (loopCP t1 own1 (evcP' c1) (evP true e) q1.items acc env1 S2).bind fun acc env2 S2 => .val acc (backP env1 env2 own1) S2 else .stuck else .val acc env1 S1) q.items [] env0 S)).bind fun us env1 S => (unlends q.back (backP env0 env1 own) S).bind fun _ env S => .val (.lst .own us) env S else .stuck
  | .dict0, env, S => .val (.dct .own []) env S
  | .stk, env, S => .stuck
  | .dctL es, env, S => (evsP true es env S).bind fun us env S => match pairsP us with
    | some kvs => if kvs.length ≤ 15 then .val (.dct .own (mergeKV kvs)) env S else .stuck
    | none => .stuck
/-- operands: frozen if k says so; else kept if what follows may change something -/
@[simp] def evsP (k : Bool) : Es → VE → OS → RP (List Vl)
  | .nil, env, S => .val [] env S
  | .cons e r, env, S => (evP (k || !quiets r) e env S).bind fun u env S => (evsP k r env S).bind fun us env S => .val ((if k then frz u else u) :: us) env S
/-- the arguments, one by one, and then the call -/
@[simp] def evcP (lf : List Vl → OS → RC) (md : List Md) : Es → List Vl → VE → OS → RV
  | .nil, args, env, S => (lf args S).up env
  | .cons e r, args, env, S => match md.headD .kp with
    | .kp => (evP true e env S).arg fun u env S => evcP lf md.tail r (args ++ [u]) env S
    | .ln => lendA (lnd (plc env S e) env S (evP true e env S)) fun u env S => evcP lf md.tail r (args ++ [u]) env S
    | .mt => takeA args.length (tak (plc env S e) env S (evP true e env S)) fun u env S => evcP lf md.tail r (args ++ [u]) env S
@[simp] def evoP : Eo → VE → OS → RP (Option Int)
  | .none, env, S => .val none env S
  | .some e, env, S => (evP false e env S).bind fun x env S => match x with
    | .int i => .val (some i) env S
    | _ => .stuck
@[simp] def evcP' : Eo → VE → OS → RP Bool
  | .none, env, S => .val true env S
  | .some e, env, S => (evP false e env S).bind fun x env S => ofP env S (truP x)
@[simp] def eviP : It → VE → OS → RP SqP
  | .seq e, env, S => (lnd (plc env S e) env S (evP true e env S)).bind fun x env S => match x.1 with
    | .str s => .val ⟨s.cps.toList.map fun c => .str ⟨#[c]⟩, x.2.toList⟩ env S
    | v => match itemsP v with
      | some us => .val ⟨us, x.2.toList⟩ env S
      | none => .stuck
  | .rng1 e, env, S => (evP false e env S).bind fun x env S => match x with
    | .int n => if n.natAbs < 4611686018427387904 then .val ⟨(List.range n.toNat).map fun (k : Nat) => .int k, []⟩ env S else .stuck
    | _ => .stuck
  | .rrng1 e, env, S => (evP false e env S).bind fun x env S => match x with
    | .int n => if n.natAbs < 4611686018427387904 then .val ⟨((List.range n.toNat).map fun (k : Nat) => .int k).reverse, []⟩ env S else .stuck
    | _ => .stuck
  | .rng2 a b, env, S => (evP false a env S).bind fun x env S => (evP false b env S).bind fun y env S => match x, y with
    | .int i, .int j => if i.natAbs < 4611686018427387904 ∧ j.natAbs < 4611686018427387904 then .val ⟨(List.range (j - i).toNat).map fun (k : Nat) => .int (i + k), []⟩ env S else .stuck
    | _, _ => .stuck
  | .enum e, env, S => (lnd (plc env S e) env S (evP true e env S)).bind fun x env S => match x.1 with
    | .lst _ us => .val ⟨us.zipIdx.map fun p => .tup [.int p.2, p.1], x.2.toList⟩ env S
    | _ => .stuck
  | .zip a b, env, S => (lnd (plc env S a) env S (evP true a env S)).bind fun x env S => (noXP (lnd (plc env S b) env S (evP true b env S))).bind fun y env S => match x.1, y.1 with
    | .lst _ us, .lst _ ws => if us.length = ws.length then .val ⟨(us.zip ws).map fun z => .tup [z.1, z.2], y.2.toList ++ x.2.toList⟩ env S else .stuck
    | _, _ => .stuck
  | .rev e, env, S => (lnd (plc env S e) env S (evP true e env S)).bind fun x env S => match itemsP x.1 with
    | some us => .val ⟨us.reverse, x.2.toList⟩ env S
    | none => .stuck
  | .chars e, env, S => (lnd none env S (evP true e env S)).bind fun x env S => match x.1 with
    | .str s => .val ⟨s.cps.toList.map fun c => .str ⟨#[c]⟩, x.2.toList⟩ env S
    | v => match itemsP v with
      | some us => .val ⟨us, x.2.toList⟩ env S
      | none => .stuck
end
@[simp] def evtP (e : E) (env : VE) (S : OS) : RP Bool := (evP P cf false e env S).bind fun x env S => ofP env S (truP x)
mutual
def asgS : St → List Nat
  | .asg t _ => tgN t
  | .aug i _ _ => [i]
  | .ifS _ a b => asgSs a ++ asgSs b
  | .whl _ b => asgSs b
  | .for_ t _ b => tgN t ++ asgSs b
  | .tryM b hs => asgSs b ++ asgH hs
  | .tryAs b _ i h => i :: (asgSs b ++ asgSs h)
  | _ => []
def asgSs : Sts → List Nat
  | .nil => []
  | .cons s r => asgS s ++ asgSs r
def asgH : Hs → List Nat
  | .nil => []
  | .cons _ h r => asgSs h ++ asgH r
end
/-- who is handed over to be changed is not named anew -/
def mdB (fn : Fn) : Bool := (List.range fn.md.length).all fun j => match fn.md[j]? with
  | some .mt => !((asgSs fn.body).contains j) && decide (j < fn.np)
  | _ => true
def clsP (S : OS) (o : Nat) : Option Nat := match S[o]? with
  | some (c, _) => some c
  | none => none
def setfP (fl : List (Nat × Nat)) (S : OS) (o f : Nat) (v : Vl) : Option OS := match S[o]? with
  | some (c, fs) => if fs.length < 1000 ∧ fl.contains (c, f) = true then some (S.set o (c, putF f v fs)) else none
  | none => none
where putF (f : Nat) (v : Vl) : List (Nat × Vl) → List (Nat × Vl)
  | [] => [(f, v)]
  | (g, w) :: r => if g = f then (f, v) :: r else (g, w) :: putF f v r
def noXoP : OP → OP
  | .exc _ _ _ => .stuck
  | o => o
variable (fuel : Nat)
mutual
@[simp] def exP : St → VE → OS → OP
  | .asg t e, env, S => (evP P cf true e env S).out fun x env S => match bindP t x env with
    | some env1 => .nx env1 S
    | none => .stuck
  | .setf o f e, env, S => if quiet o then (evP P cf true e env S).out fun u env S => (evP P cf false o env S).out fun x env S => match x with
    | .obj n => match setfP P.flds S n f u with
      | some S1 => .nx env S1
      | none => .stuck
    | _ => .stuck else .stuck
  | .seti o i e, env, S => if quiet o && quiet i then (evP P cf true e env S).out fun u env S => (match plc env S o with
      | some p => (if ownB (getP env S p) then (evP P cf false i env S).out fun k env S => setAt p k u env S else .stuck)
      | none => .stuck) else .stuck
  | .aug i o e, env, S => match env[i]?.join with
    | some (.int a) => (evP P cf false e env S).out fun y env S => match o, y with
      | .add, .int b => .nx (env.set i (some (.int (a + b)))) S
      | .sub, .int b => .nx (env.set i (some (.int (a - b)))) S
      | _, _ => .stuck
    | _ => .stuck
  | .augf o f p e, env, S => if quiet e then (evP P cf false o env S).out fun x env S => (match x with
    | .obj n => match getF S n f with
      | some (.int a) => (evP P cf false e env S).out fun y env S2 => if clsP S2 n = clsP S n then (match p, y with
        | .add, .int b => match setfP P.flds S2 n f (.int (a + b)) with
          | some S1 => .nx env S1
          | none => .stuck
        | .sub, .int b => match setfP P.flds S2 n f (.int (a - b)) with
          | some S1 => .nx env S1
          | none => .stuck
        | _, _ => .stuck) else .stuck
      | _ => .stuck
    | _ => .stuck) else .stuck
  | .exp e, env, S => (evP P cf false e env S).out fun _ env S => .nx env S
  | .ret e, env, S => (evP P cf true e env S).out fun u env S => .rt u env S
  | .retN, env, S => .rt .non env S
  | .ifS c a b, env, S => (evtP P cf c env S).out fun k env S => if k then exsP a env S else exsP b env S
  | .whl c b, env, S => loopWP (evtP P cf c) (exsP b) fuel env S
  | .for_ t it b, env, S => (eviP P cf it env S).out fun q env S => endO q.back (loopFP t (exsP b) q.items env S)
  | .brk, env, S => .bk env S
  | .cnt, env, S => .ct env S
  | .pass, env, S => .nx env S
  | .raise c es, env, S => match P.inits.lookup c with
    | some f => .stuck
    | none => .exc c env S
  | .tryM b hs, env, S => match exsP b env S with
    | .exc x env1 S1 => match P.excs.lookup x with
      | some as => exhP hs as x env1 S1
      | none => .stuck
    | o => o
  | .tryAs b c i h, env, S => .stuck
  | .del o i, env, S => if quiet o && quiet i then (match plc env S o with
      | some p => (if ownB (getP env S p) then (evP P cf false i env S).out fun k env S => delAt p k env S else .stuck)
      | none => .stuck) else .stuck
  | .stk, env, S => .stuck
  | .kill ks, env, S => .nx (wipeP env ks) S
@[simp] def exsP : Sts → VE → OS → OP
  | .nil, env, S => .nx env S
  | .cons s r, env, S => match exP s env S with
    | .nx env1 S1 => exsP r env1 S1
    | o => o
@[simp] def exhP : Hs → List Nat → Nat → VE → OS → OP
  | .nil, _, x, env, S => .exc x env S
  | .cons c h r, as, x, env, S => if c ∈ as then noXoP (exsP h env S) else exhP r as x env S
end
def finP (np : Nat) : OP → RC
  | .rt u env S => .val u (env.take np) S
  | .nx env S => .val .non (env.take np) S
  | .exc c env S => .exc c (env.take np) S
  | _ => .stuck
def callP : Nat → Nat → List Vl → OS → RC
  | 0, _, _, _ => .stuck
  | k + 1, f, us, S => match P.fns[f]? with
    | some fn => if us.length = fn.np then finP fn.np (exsP P (callP k) fuel fn.body (us.map some ++ List.replicate (fn.nl - fn.np) none) S) else .stuck
    | none => .stuck
end PyM
set_option linter.all false
set_option autoImplicit false
set_option maxRecDepth 100000
set_option maxHeartbeats 1000000
/-! The pure machine keeps what the small machine does: what a value stands for. -/
namespace PyM
open PyI
/-- what a place of the store is: protected, frozen, nobody's, a temporary, a name of a frame, a field, an object -/
inductive Kd where
  | ext | fro | gar | t (m : Nat) | e (d i : Nat) | f (o g : Nat) | o (i : Nat)
  deriving DecidableEq
abbrev Kp := Nat → Kd
structure Gh where
  κ : Kp
  om : List Nat
  S : Store
mutual
inductive Rep (g : Gh) : Vl → U → Prop where
  | non : Rep g .non .non
  | bl (b : Bool) : Rep g (.bl b) (.bl b)
  | int (i : Int) : Rep g (.int i) (.int i)
  | str (x : Str) : Rep g (.str x) (.str x)
  | fn (f : Nat) : Rep g (.fn f) (.fn f)
  | obj {i l : Nat} : g.om[i]? = some l → Rep g (.obj i) (.ref l)
  | tup {vs : List Vl} {us : List U} : RepL g vs us → Rep g (.tup vs) (.tup us)
  | lst {l : Nat} {vs : List Vl} {us : List U} : g.κ l = .fro → g.S[l]? = some (.lst us) → RepL g vs us → Rep g (.lst .no vs) (.ref l)
  | dct {l : Nat} {vs : List (Key × Vl)} {us : List (Key × U)} : g.κ l = .fro → g.S[l]? = some (.dct us) → RepK g vs us → Rep g (.dct .no vs) (.ref l)
inductive RepL (g : Gh) : List Vl → List U → Prop where
  | nil : RepL g [] []
  | cons {v : Vl} {u : U} {vs : List Vl} {us : List U} : Rep g v u → RepL g vs us → RepL g (v :: vs) (u :: us)
inductive RepK (g : Gh) : List (Key × Vl) → List (Key × U) → Prop where
  | nil : RepK g [] []
  | cons {k : Key} {v : Vl} {u : U} {vs : List (Key × Vl)} {us : List (Key × U)} : Rep g v u → RepK g vs us → RepK g ((k, v) :: vs) ((k, u) :: us)
end
/-- frozen things stay, objects stay -/
structure Fro (g g' : Gh) : Prop where
  fro : ∀ l, g.κ l = .fro → g'.κ l = .fro ∧ g'.S[l]? = g.S[l]?
  om : g.om <+: g'.om
theorem Fro.refl (g : Gh) : Fro g g := ⟨fun _ h => ⟨h, rfl⟩, List.prefix_refl _⟩
theorem Fro.trans {g g' g'' : Gh} (a : Fro g g') (b : Fro g' g'') : Fro g g'' := ⟨fun l h => ⟨(b.fro l (a.fro l h).1).1, (b.fro l (a.fro l h).1).2.trans (a.fro l h).2⟩, a.om.trans b.om⟩
theorem items_same {S S' : Store} {l : Nat} (h : S'[l]? = S[l]?) : itemsU S' (.ref l) = itemsU S (.ref l) := by simp only [itemsU, h]
theorem pre_get {α : Type} {xs ys : List α} (h : xs <+: ys) {l : Nat} {a : α} (e : xs[l]? = some a) : ys[l]? = some a := by
  obtain ⟨zs, rfl⟩ := h
  rw [List.getElem?_append_left (List.getElem?_eq_some_iff.mp e).1, e]
mutual
theorem Rep.mono {g g' : Gh} (h : Fro g g') : ∀ {v : Vl} {u : U}, Rep g v u → Rep g' v u
  | _, _, .non => .non
  | _, _, .bl b => .bl b
  | _, _, .int b => .int b
  | _, _, .str b => .str b
  | _, _, .fn b => .fn b
  | _, _, .obj e => .obj (pre_get h.om e)
  | _, _, .tup r => .tup (r.mono h)
  | _, _, .lst a b r => .lst (h.fro _ a).1 (by rw [(h.fro _ a).2, b]) (r.mono h)
  | _, _, .dct a b r => .dct (h.fro _ a).1 (by rw [(h.fro _ a).2, b]) (r.mono h)
theorem RepL.mono {g g' : Gh} (h : Fro g g') : ∀ {v : List Vl} {u : List U}, RepL g v u → RepL g' v u
  | _, _, .nil => .nil
  | _, _, .cons a r => .cons (a.mono h) (r.mono h)
theorem RepK.mono {g g' : Gh} (h : Fro g g') : ∀ {v : List (Key × Vl)} {u : List (Key × U)}, RepK g v u → RepK g' v u
  | _, _, .nil => .nil
  | _, _, .cons a r => .cons (a.mono h) (r.mono h)
end
section
variable {g : Gh}
theorem RepL.len : ∀ {vs : List Vl} {us : List U}, RepL g vs us → us.length = vs.length
  | _, _, .nil => rfl
  | _, _, .cons _ r => by rw [List.length_cons, List.length_cons, r.len]
theorem RepL.app {vs : List Vl} {us : List U} {vs' : List Vl} {us' : List U} (a : RepL g vs us) (b : RepL g vs' us') : RepL g (vs ++ vs') (us ++ us') := by
  induction vs generalizing us with
  | nil => cases a; exact b
  | cons v vs ih => cases a with | cons a r => exact .cons a (ih r)
theorem RepL.at {vs : List Vl} {us : List U} (r : RepL g vs us) : ∀ {i : Nat} {v : Vl}, vs[i]? = some v → ∃ u, us[i]? = some u ∧ Rep g v u := by
  induction vs generalizing us with
  | nil => intro i v h; simp at h
  | cons w vs ih =>
    intro i v h
    cases r with
    | cons a r =>
      cases i with
      | zero => cases h; exact ⟨_, rfl, a⟩
      | succ i => exact ih r h
theorem RepL.take {vs : List Vl} {us : List U} (r : RepL g vs us) : ∀ n : Nat, RepL g (vs.take n) (us.take n) := by
  induction vs generalizing us with
  | nil => intro n; cases r; simp; exact .nil
  | cons v vs ih =>
    intro n
    cases r with
    | cons a r =>
      cases n with
      | zero => exact .nil
      | succ n => exact .cons a (ih r n)
theorem RepL.drop {vs : List Vl} {us : List U} (r : RepL g vs us) : ∀ n : Nat, RepL g (vs.drop n) (us.drop n) := by
  induction vs generalizing us with
  | nil => intro n; cases r; simp; exact .nil
  | cons v vs ih =>
    intro n
    cases r with
    | cons a r =>
      cases n with
      | zero => exact .cons a r
      | succ n => exact ih r n
theorem RepL.set {vs : List Vl} {us : List U} {v : Vl} {u : U} (r : RepL g vs us) (a : Rep g v u) : ∀ n : Nat, RepL g (vs.set n v) (us.set n u) := by
  induction vs generalizing us with
  | nil => intro n; cases r; exact .nil
  | cons w vs ih =>
    intro n
    cases r with
    | cons b r =>
      cases n with
      | zero => exact .cons a r
      | succ n => exact .cons b (ih r n)
theorem RepL.rev {vs : List Vl} {us : List U} (r : RepL g vs us) : RepL g vs.reverse us.reverse := by
  induction vs generalizing us with
  | nil => cases r; exact .nil
  | cons v vs ih =>
    cases r with
    | cons a r =>
      rw [List.reverse_cons, List.reverse_cons]
      exact (ih r).app (.cons a .nil)
theorem RepL.rep {vs : List Vl} {us : List U} (r : RepL g vs us) : ∀ k : Nat, RepL g (List.replicate k vs).flatten (List.replicate k us).flatten
  | 0 => .nil
  | k + 1 => by
    rw [List.replicate_succ, List.replicate_succ, List.flatten_cons, List.flatten_cons]
    exact r.app (r.rep k)
theorem RepL.erase {vs : List Vl} {us : List U} (r : RepL g vs us) (n : Nat) : RepL g (vs.eraseIdx n) (us.eraseIdx n) := by
  rw [List.eraseIdx_eq_take_drop_succ, List.eraseIdx_eq_take_drop_succ]
  exact (r.take n).app (r.drop (n + 1))
theorem RepL.dropLast {vs : List Vl} {us : List U} (r : RepL g vs us) : RepL g vs.dropLast us.dropLast := by
  rw [List.dropLast_eq_take, List.dropLast_eq_take, r.len]
  exact r.take _
theorem RepL.ints {vs : List Vl} {us : List U} (r : RepL g vs us) : ∀ {ns : List Int}, asIntsP vs = some ns → asInts us = some ns := by
  induction vs generalizing us with
  | nil => intro ns h; cases r; exact h
  | cons v vs ih =>
    intro ns h
    cases r with
    | cons a r =>
      cases a <;> first | (cases h; done) | skip
      simp only [asIntsP] at h
      simp only [asInts]
      cases h1 : asIntsP vs with
      | none => rw [h1] at h; cases h
      | some ms => rw [h1] at h; rw [ih r h1]; exact h
theorem RepL.bls {vs : List Vl} {us : List U} (r : RepL g vs us) : ∀ {ns : List Bool}, asBlsP vs = some ns → asBls us = some ns := by
  induction vs generalizing us with
  | nil => intro ns h; cases r; exact h
  | cons v vs ih =>
    intro ns h
    cases r with
    | cons a r =>
      cases a <;> first | (cases h; done) | skip
      simp only [asBlsP] at h
      simp only [asBls]
      cases h1 : asBlsP vs with
      | none => rw [h1] at h; cases h
      | some ms => rw [h1] at h; rw [ih r h1]; exact h
theorem RepL.strs {vs : List Vl} {us : List U} (r : RepL g vs us) : ∀ {ns : List Str}, asStrsP vs = some ns → asStrs us = some ns := by
  induction vs generalizing us with
  | nil => intro ns h; cases r; exact h
  | cons v vs ih =>
    intro ns h
    cases r with
    | cons a r =>
      cases a <;> first | (cases h; done) | skip
      simp only [asStrsP] at h
      simp only [asStrs]
      cases h1 : asStrsP vs with
      | none => rw [h1] at h; cases h
      | some ms => rw [h1] at h; rw [ih r h1]; exact h
theorem RepL.ofInts (ns : List Int) : RepL g (ns.map .int) (ns.map .int) := by
  induction ns with
  | nil => exact .nil
  | cons n ns ih => exact .cons (.int n) ih
theorem RepL.ofStrs (ns : List Str) : RepL g (ns.map .str) (ns.map .str) := by
  induction ns with
  | nil => exact .nil
  | cons n ns ih => exact .cons (.str n) ih
theorem asInts_strs {us : List U} {xs : List Str} (h : asStrs us = some xs) (hne : us ≠ []) : asInts us = none := by
  cases us with
  | nil => exact absurd rfl hne
  | cons u us => cases u <;> first | (cases h; done) | rfl
theorem RepL.last {vs : List Vl} {us : List U} (r : RepL g vs us) {v : Vl} (h : vs.getLast? = some v) : ∃ u, us.getLast? = some u ∧ Rep g v u := by
  rw [List.getLast?_eq_getElem?] at h ⊢
  rw [r.len]
  exact r.at h
/-- a value that is read: whoever owns it -/
inductive Br (g : Gh) : Vl → U → Prop where
  | rep {v : Vl} {u : U} : Rep g v u → Br g v u
  | lst {l : Nat} {o : Ow} {vs : List Vl} {us : List U} : g.S[l]? = some (.lst us) → RepL g vs us → Br g (.lst o vs) (.ref l)
  | scr {l : Nat} {vs : List Vl} {us : List U} : g.S[l]? = some (.fz us) → RepL g vs us → Br g (.scr vs) (.ref l)
  | dct {l : Nat} {o : Ow} {vs : List (Key × Vl)} {us : List (Key × U)} : g.S[l]? = some (.dct us) → RepK g vs us → Br g (.dct o vs) (.ref l)
theorem Br.lst' {o : Ow} {vs : List Vl} {u : U} (h : Br g (.lst o vs) u) : ∃ l us, u = .ref l ∧ g.S[l]? = some (.lst us) ∧ RepL g vs us := by
  cases h with
  | rep h => cases h with | lst a b c => exact ⟨_, _, rfl, b, c⟩
  | lst a b => exact ⟨_, _, rfl, a, b⟩
theorem Br.scr' {vs : List Vl} {u : U} (h : Br g (.scr vs) u) : ∃ l us, u = .ref l ∧ g.S[l]? = some (.fz us) ∧ RepL g vs us := by
  cases h with
  | rep h => cases h
  | scr a b => exact ⟨_, _, rfl, a, b⟩
theorem Br.dct' {o : Ow} {vs : List (Key × Vl)} {u : U} (h : Br g (.dct o vs) u) : ∃ l us, u = .ref l ∧ g.S[l]? = some (.dct us) ∧ RepK g vs us := by
  cases h with
  | rep h => cases h with | dct a b c => exact ⟨_, _, rfl, b, c⟩
  | dct a b => exact ⟨_, _, rfl, a, b⟩
theorem Br.tup' {vs : List Vl} {u : U} (h : Br g (.tup vs) u) : ∃ us, u = .tup us ∧ RepL g vs us := by
  cases h with
  | rep h => cases h with | tup a => exact ⟨_, rfl, a⟩
theorem Br.int' {i : Int} {u : U} (h : Br g (.int i) u) : u = .int i := by
  cases h with
  | rep h => cases h; rfl
theorem Br.str' {i : Str} {u : U} (h : Br g (.str i) u) : u = .str i := by
  cases h with
  | rep h => cases h; rfl
theorem Br.bl' {i : Bool} {u : U} (h : Br g (.bl i) u) : u = .bl i := by
  cases h with
  | rep h => cases h; rfl
theorem Br.non' {u : U} (h : Br g .non u) : u = .non := by
  cases h with
  | rep h => cases h; rfl
theorem Br.fn' {f : Nat} {u : U} (h : Br g (.fn f) u) : u = .fn f := by
  cases h with
  | rep h => cases h; rfl
theorem Br.obj' {i : Nat} {u : U} (h : Br g (.obj i) u) : ∃ l, u = .ref l ∧ g.om[i]? = some l := by
  cases h with
  | rep h => cases h with | obj a => exact ⟨_, rfl, a⟩
theorem Br.tkn' {u : U} (h : Br g .tkn u) : False := by
  cases h with
  | rep h => cases h
inductive BrL (g : Gh) : List Vl → List U → Prop where
  | nil : BrL g [] []
  | cons {v : Vl} {u : U} {vs : List Vl} {us : List U} : Br g v u → BrL g vs us → BrL g (v :: vs) (u :: us)
theorem RepL.br {vs : List Vl} {us : List U} (r : RepL g vs us) : BrL g vs us := by
  induction vs generalizing us with
  | nil => cases r; exact .nil
  | cons v vs ih => cases r with | cons a r => exact .cons (.rep a) (ih r)
end
theorem RepL.one {g : Gh} {v : Vl} {us : List U} (h : RepL g [v] us) : ∃ u, us = [u] ∧ Rep g v u := by
  cases h with
  | cons a r => cases r; exact ⟨_, rfl, a⟩
theorem RepL.two {g : Gh} {v w : Vl} {us : List U} (h : RepL g [v, w] us) : ∃ u x, us = [u, x] ∧ Rep g v u ∧ Rep g w x := by
  cases h with
  | cons a r =>
    obtain ⟨x, rfl, b⟩ := r.one
    exact ⟨_, _, rfl, a, b⟩
/-! ### plain data -/
theorem seqO_map {α β γ : Type} {g : α → Option γ} {f : β → Option γ} {R : α → β → Prop} {as : List α} {bs : List β} (hl : as.length = bs.length) (h : ∀ (i : Nat) (a : α) (b : β), as[i]? = some a → bs[i]? = some b → ∀ d, g a = some d → f b = some d) {ds : List γ} (e : seqO (as.map g) = some ds) : seqO (bs.map f) = some ds := by
  induction as generalizing bs ds with
  | nil => cases bs with
    | nil => exact e
    | cons b bs => cases hl
  | cons a as ih => cases bs with
    | nil => cases hl
    | cons b bs =>
      simp only [List.map_cons] at e ⊢
      cases ha : g a with
      | none => rw [ha] at e; cases e
      | some d =>
        rw [ha] at e
        rw [h 0 a b rfl rfl d ha]
        simp only [seqO] at e ⊢
        cases hs : seqO (as.map g) with
        | none => rw [hs] at e; cases e
        | some ds1 =>
          rw [hs] at e
          rw [ih (bs := bs) (by simpa using hl) (fun i x y hx hy => h (i + 1) x y hx hy) hs]
          exact e
theorem RepL.seq {g : Gh} {vs : List Vl} {us : List U} (r : RepL g vs us) {n : Nat} (h : ∀ {v u d}, Rep g v u → datP n v = some d → datU g.S n u = some d) {ds : List PySem.PyData} (e : seqO (vs.map (datP n)) = some ds) : seqO (us.map (datU g.S n)) = some ds :=
  seqO_map (R := fun _ _ => True) r.len.symm (fun i a b ha hb d hd => by
    obtain ⟨u, hu, ru⟩ := r.at ha
    rw [hb] at hu
    cases hu
    exact h ru hd) e
theorem dat_br {g : Gh} : ∀ (n : Nat) {v : Vl} {u : U} {d : PySem.PyData}, Br g v u → datP n v = some d → datU g.S n u = some d := by
  intro n
  induction n with
  | zero =>
    intro v u d h e
    cases h with
    | rep h => cases h <;> first | exact e | cases e
    | lst a b => cases e
    | scr a b => cases e
    | dct a b => cases e
  | succ n ih =>
    intro v u d h e
    have hl : ∀ {o vs l us}, g.S[l]? = some (.lst us) → RepL g vs us → datP (n + 1) (.lst o vs) = some d → datU g.S (n + 1) (.ref l) = some d := by
      intro o vs l us hi r e
      simp only [datP] at e
      cases hs : seqO (vs.map (datP n)) with
      | none => rw [hs] at e; cases e
      | some ds =>
        rw [hs] at e
        have hz := r.seq (fun r e => ih (.rep r) e) hs
        simp only [datU, hi, hz]
        exact e
    cases h with
    | rep h =>
      cases h with
      | non => exact e
      | bl b => exact e
      | int i => exact e
      | str x => exact e
      | fn f => cases e
      | obj a => cases e
      | @tup vs us r =>
        simp only [datP] at e
        simp only [datU]
        cases hs : seqO (vs.map (datP n)) with
        | none => rw [hs] at e; cases e
        | some ds =>
          rw [hs] at e
          rw [r.seq (fun r e => ih (.rep r) e) hs]
          exact e
      | lst hf hi r => exact hl hi r e
      | dct a b c => cases e
    | lst a b => exact hl a b e
    | scr a b => cases e
    | dct a b => cases e
end PyM
set_option linter.all false
set_option autoImplicit false
set_option maxRecDepth 100000
set_option maxHeartbeats 1000000
/-! The pure machine keeps what the small machine does: operations. -/
namespace PyM
open PyI
section
variable {g : Gh}
/-- an operation's answer: something that stands, or a new list -/
inductive Nw (g : Gh) : Vl → R U → Prop where
  | old {v : Vl} {u : U} : Rep g v u → Nw g v (.val u g.S)
  | lst {vs : List Vl} {us : List U} : RepL g vs us → Nw g (.lst .own vs) (.val (.ref g.S.length) (g.S ++ [.lst us]))
  | dct {vs : List (Key × Vl)} {us : List (Key × U)} : RepK g vs us → Nw g (.dct .own vs) (.val (.ref g.S.length) (g.S ++ [.dct us]))
theorem Nw.newP {vs : List Vl} {us : List U} {v : Vl} (r : RepL g vs us) (e : newP vs = some v) : Nw g v (newL us g.S) := by
  unfold PyM.newP at e
  split at e
  · rename_i h
    cases e
    unfold newL
    rw [if_pos (by rw [r.len]; exact h)]
    exact .lst r
  · cases e
theorem at_ok {vs : List Vl} {us : List U} (r : RepL g vs us) {i : Int} {v : Vl} (e : atU vs i = some v) : ∃ u, atU us i = some u ∧ Rep g v u := by
  unfold atU at e ⊢
  rw [r.len]
  split at e
  · rename_i h
    rw [if_pos h]
    split at e
    · rename_i h2
      rw [if_pos h2]
      exact r.at e
    · cases e
  · rename_i h
    rw [if_neg h]
    split at e
    · rename_i h2
      rw [if_pos h2]
      exact r.at e
    · cases e
theorem cut_ok {vs : List Vl} {us : List U} (r : RepL g vs us) (lo hi : Option Int) : RepL g (cutU vs lo hi) (cutU us lo hi) := by
  unfold cutU
  rw [r.len]
  exact (r.drop _).take _
theorem bin_nw {o : Bop} {x y v : Vl} {ux uy : U} (hx : Br g x ux) (hy : Br g y uy) (e : binP o x y = some v) : Nw g v (binU o ux uy g.S) := by
  unfold binP at e
  split at e
  · cases hx.int'; cases hy.int'; cases e; exact .old (.int _)
  · cases hx.str'; cases hy.str'
    split at e
    · rename_i h
      cases e
      rw [show binU .add (.str _) (.str _) g.S = _ from if_pos h]
      exact .old (.str _)
    · cases e
  · obtain ⟨us, rfl, r⟩ := hx.tup'
    obtain ⟨ws, rfl, s⟩ := hy.tup'
    split at e
    · rename_i h
      cases e
      rw [show binU .add (.tup _) (.tup _) g.S = _ from if_pos (by rw [r.len, s.len]; exact h)]
      exact .old (.tup (r.app s))
    · cases e
  · obtain ⟨l, us, rfl, a, r⟩ := hx.lst'
    obtain ⟨k, ws, rfl, b, s⟩ := hy.lst'
    simp only [binU, a, b]
    exact .newP (r.app s) e
  · cases hx.int'; cases hy.int'; cases e; exact .old (.int _)
  · cases hx.int'; cases hy.int'
    split at e
    · rename_i h
      cases e
      rw [show binU .mul (.int _) (.int _) g.S = _ from if_pos h]
      exact .old (.int _)
    · cases e
  · cases hx.str'; cases hy.int'
    split at e
    · rename_i h
      cases e
      rw [show binU .mul (.str _) (.int _) g.S = _ from if_pos h]
      exact .old (.str _)
    · cases e
  · obtain ⟨l, us, rfl, a, r⟩ := hx.lst'
    cases hy.int'
    split at e
    · rename_i h
      simp only [binU, a, h, if_true]
      exact .newP (r.rep _) e
    · cases e
  · cases hx.int'; cases hy.int'
    split at e
    · rename_i h
      cases e
      rw [show binU .fdiv (.int _) (.int _) g.S = _ from if_pos h]
      exact .old (.int _)
    · cases e
  · cases hx.int'; cases hy.int'
    split at e
    · rename_i h
      cases e
      rw [show binU .mod (.int _) (.int _) g.S = _ from if_pos h]
      exact .old (.int _)
    · cases e
  · cases hx.int'; cases hy.int'
    split at e
    · rename_i h
      cases e
      rw [show binU .band (.int _) (.int _) g.S = _ from if_pos h]
      exact .old (.int _)
    · cases e
  · cases e
theorem eqD_ok2 {x y : Vl} {ux uy : U} (hx : Br g x ux) (hy : Br g y uy) {b : Bool} (e : eqDP x y = some b) : eqD g.S ux uy = some b := by
  unfold eqDP at e
  split at e
  · rename_i d1 d2 h1 h2
    unfold eqD
    rw [dat_br _ hx h1, dat_br _ hy h2]
    exact e
  · cases e
theorem eq_ok2 {x y : Vl} {ux uy : U} (hx : Br g x ux) (hy : Br g y uy) {b : Bool} (e : eqP x y = some b) : eqU g.S ux uy = some b := by
  unfold eqP at e
  split at e
  · cases hx.int'; cases hy.int'; exact e
  · cases hx.str'; cases hy.str'; exact e
  · cases hx.str'; cases hy.non'; exact e
  · cases hx.non'; cases hy.str'; exact e
  · rename_i n1 n2 n3 n4
    have d := eqD_ok2 hx hy e
    unfold eqU
    split
    · exfalso
      cases hx with
      | rep hx => cases hx with
        | int i => cases hy with
          | rep hy => cases hy with
            | int j => exact n1 _ _ rfl rfl
    · exfalso
      cases hx with
      | rep hx => cases hx with
        | str i => cases hy with
          | rep hy => cases hy with
            | str j => exact n2 _ _ rfl rfl
    · exfalso
      cases hx with
      | rep hx => cases hx with
        | str i => cases hy with
          | rep hy => cases hy with
            | non => exact n3 _ rfl rfl
    · exfalso
      cases hx with
      | rep hx => cases hx with
        | non => cases hy with
          | rep hy => cases hy with
            | str j => exact n4 _ rfl rfl
    · exact d
theorem fl_ok {v : Vl} {u : U} (r : Rep g v u) (h : flP v = true) : flU u = true := by cases r <;> first | rfl | cases h
theorem fl_br {v : Vl} {u : U} (r : Br g v u) (h : flP v = true) : Rep g v u ∧ flU u = true := by
  cases r with
  | rep r => exact ⟨r, fl_ok r h⟩
  | lst a b => cases h
  | scr a b => cases h
  | dct a b => cases h
theorem fls_ok {vs : List Vl} {us : List U} (r : RepL g vs us) (h : vs.all flP = true) : us.all flU = true := by
  induction vs generalizing us with
  | nil => cases r; rfl
  | cons v vs ih =>
    cases r with
    | cons a r =>
      rw [List.all_cons, Bool.and_eq_true] at h
      rw [List.all_cons, fl_ok a h.1, ih r h.2]; rfl
theorem eqF_ok2 {x y : Vl} {ux uy : U} (r : Rep g x ux) (s : Rep g y uy) (f1 : flP x = true) (f2 : flP y = true) : eqF ux uy = eqFP x y := by
  cases r <;> cases s <;> first | rfl | cases f1 | cases f2
theorem anyF_ok2 {vs : List Vl} {us : List U} {x : Vl} {u : U} (r : RepL g vs us) (s : Rep g x u) (f1 : flP x = true) (f2 : vs.all flP = true) : (us.any fun z => eqF z u) = vs.any fun z => eqFP z x := by
  induction vs generalizing us with
  | nil => cases r; rfl
  | cons v vs ih =>
    cases r with
    | cons a r =>
      rw [List.all_cons, Bool.and_eq_true] at f2
      rw [List.any_cons, List.any_cons, ih r f2.2, eqF_ok2 a s f2.1 f1]
theorem findF_ok2 {vs : List Vl} {us : List U} {x : Vl} {u : U} (r : RepL g vs us) (s : Rep g x u) (f1 : flP x = true) (f2 : vs.all flP = true) : (us.findIdx? fun z => eqF z u) = vs.findIdx? fun z => eqFP z x := by
  induction vs generalizing us with
  | nil => cases r; rfl
  | cons v vs ih =>
    cases r with
    | cons a r =>
      rw [List.all_cons, Bool.and_eq_true] at f2
      rw [List.findIdx?_cons, List.findIdx?_cons, ih r f2.2, eqF_ok2 a s f2.1 f1]
theorem items_br {v : Vl} {u : U} (h : Br g v u) {vs : List Vl} (e : itemsP v = some vs) : ∃ us, itemsU g.S u = some us ∧ RepL g vs us := by
  unfold itemsP at e
  split at e
  · cases e
    obtain ⟨us, rfl, r⟩ := h.tup'
    exact ⟨us, rfl, r⟩
  · cases e
    obtain ⟨l, us, rfl, a, r⟩ := h.lst'
    exact ⟨us, by simp only [itemsU, a], r⟩
  · cases e
    obtain ⟨l, us, rfl, a, r⟩ := h.scr'
    exact ⟨us, by simp only [itemsU, a], r⟩
  · cases e
theorem memI_ok2 {x y : Vl} {ux uy : U} (hx : Br g x ux) (hy : Br g y uy) {b : Bool} (e : memIP x y = some b) : memI g.S ux uy = some b := by
  unfold memIP at e
  split at e
  · rename_i vs hv
    obtain ⟨us, hu, r⟩ := items_br hy hv
    unfold memI
    rw [hu]
    simp only
    split at e
    · rename_i f
      obtain ⟨rx, fx⟩ := fl_br hx f.1
      rw [if_pos ⟨fx, fls_ok r f.2⟩, anyF_ok2 r rx f.1 f.2]
      exact e
    · rename_i nf
      split at e
      · rename_i o ws
        cases hv
        obtain ⟨l, us', rfl, a, r'⟩ := hy.lst'
        split at e
        · rename_i d ds h1 h2
          have e1 := dat_br _ hx h1
          have e2 := dat_br _ hy h2
          split
          · rename_i f
            exfalso
            apply nf
            have : ∀ {v u}, Rep g v u → flU u = true → flP v = true := fun r h => by cases r <;> first | rfl | cases h
            refine ⟨?_, ?_⟩
            · cases hx with
              | rep hx => exact this hx f.1
              | lst a b => cases f.1
              | scr a b => cases f.1
              | dct a b => cases f.1
            · have go : ∀ {vs : List Vl} {us : List U}, RepL g vs us → us.all flU = true → vs.all flP = true := by
                intro vs
                induction vs with
                | nil => intro us r h; rfl
                | cons v vs ih =>
                  intro us r h
                  cases r with
                  | cons a r =>
                    rw [List.all_cons, Bool.and_eq_true] at h
                    rw [List.all_cons, this a h.1, ih r h.2]; rfl
              exact go r f.2
          · simp only [e1, e2]
            exact e
        · cases e
      · cases e
  · cases e
/-! dicts -/
theorem dct_br {y : Vl} {uy : U} (h : Br g y uy) {vs : List (Key × Vl)} (e : dctP y = some vs) : ∃ l us, uy = .ref l ∧ g.S[l]? = some (.dct us) ∧ RepK g vs us := by
  cases y <;> first | (cases e; done) | skip
  cases e
  exact h.dct'
theorem key_br {y : Vl} {uy : U} (h : Br g y uy) {k : Key} (e : keyP y = some k) : keyU uy = some k := by
  cases y <;> first | (cases e; done) | skip
  · cases h.int'; exact e
  · cases h.str'; exact e
theorem RepK.get {vs : List (Key × Vl)} {us : List (Key × U)} (k : Key) (r : RepK g vs us) : (getK k vs = none ∧ getK k us = none) ∨ ∃ v u, getK k vs = some v ∧ getK k us = some u ∧ Rep g v u := by
  induction vs generalizing us with
  | nil => cases r; exact .inl ⟨rfl, rfl⟩
  | cons p vs ih =>
    cases r with
    | @cons k' v u _ us a r =>
      have hit : ∀ {α : Type} (x : α) (l : List (Key × α)), k' = k → getK k ((k', x) :: l) = some x := fun x l e => by
        unfold getK; rw [List.find?_cons_of_pos (by simp [e])]; rfl
      have miss : ∀ {α : Type} (x : α) (l : List (Key × α)), ¬ k' = k → getK k ((k', x) :: l) = getK k l := fun x l e => by
        unfold getK; rw [List.find?_cons_of_neg (by simp [e])]
      by_cases e : k' = k
      · exact .inr ⟨v, u, hit _ _ e, hit _ _ e, a⟩
      · rw [miss _ _ e, miss _ _ e]
        exact ih r
theorem RepK.any {vs : List (Key × Vl)} {us : List (Key × U)} (k : Key) (r : RepK g vs us) : (us.any fun p => decide (p.1 = k)) = vs.any fun p => decide (p.1 = k) := by
  induction vs generalizing us with
  | nil => cases r; rfl
  | cons p vs ih => cases r with | cons a r => rw [List.any_cons, List.any_cons, ih r]
theorem RepK.app {vs vs' : List (Key × Vl)} {us us' : List (Key × U)} (r : RepK g vs us) (r' : RepK g vs' us') : RepK g (vs ++ vs') (us ++ us') := by
  induction vs generalizing us with
  | nil => cases r; exact r'
  | cons p vs ih => cases r with | cons a r => exact .cons a (ih r)
theorem RepK.put {vs : List (Key × Vl)} {us : List (Key × U)} (k : Key) {v : Vl} {u : U} (a : Rep g v u) (r : RepK g vs us) : RepK g (putKV k v vs) (putKV k u us) := by
  unfold putKV
  rw [r.any k]
  split
  · rename_i h
    clear h
    induction vs generalizing us with
    | nil => cases r; exact .nil
    | cons p vs ih =>
      cases r with
      | @cons k' w x _ us b r =>
        rw [List.map_cons, List.map_cons]
        by_cases e : k' = k
        · rw [if_pos e, if_pos e]; exact .cons a (ih r)
        · rw [if_neg e, if_neg e]; exact .cons b (ih r)
  · exact r.app (.cons a .nil)
theorem RepK.drop {vs : List (Key × Vl)} {us : List (Key × U)} (k : Key) (r : RepK g vs us) : RepK g (dropKV k vs) (dropKV k us) := by
  unfold dropKV
  induction vs generalizing us with
  | nil => cases r; exact .nil
  | cons p vs ih =>
    cases r with
    | @cons k' w x _ us b r =>
      by_cases e : k' = k
      · rw [List.filter_cons_of_neg (by simp [e]), List.filter_cons_of_neg (by simp [e])]; exact ih r
      · rw [List.filter_cons_of_pos (by simp [e]), List.filter_cons_of_pos (by simp [e])]; exact .cons b (ih r)
theorem rep_key (k : Key) : Rep g (keyV k) (keyO k) := by cases k <;> constructor
theorem RepK.keys {vs : List (Key × Vl)} {us : List (Key × U)} (r : RepK g vs us) : RepL g (vs.map fun p => keyV p.1) (us.map fun p => keyO p.1) := by
  induction vs generalizing us with
  | nil => cases r; exact .nil
  | cons p vs ih => cases r with | cons a r => exact .cons (rep_key _) (ih r)
theorem memD_ok2 {x y : Vl} {ux uy : U} (hx : Br g x ux) (hy : Br g y uy) {b : Bool} (e : memDP x y = some b) : memD g.S ux uy = some b := by
  unfold memDP at e
  split at e
  · rename_i kvs k h1 h2
    cases e
    obtain ⟨l, us, rfl, hl, r⟩ := dct_br hy h1
    unfold memD
    rw [key_br hx h2, show dctU g.S (.ref l) = some us by simp only [dctU, hl]]
    rcases r.get k with ⟨e1, e2⟩ | ⟨v, u, e1, e2, _⟩ <;> simp only [e1, e2, Option.isSome]
  · cases e
theorem dctU_none {y : Vl} {uy : U} (h : Br g y uy) (e : dctP y = none) (n : y ≠ .tkn) : dctU g.S uy = none ∨ ∃ o, y = .obj o := by
  cases y <;> first | (cases e; done) | skip
  · cases h.non'; exact .inl rfl
  · cases h.bl'; exact .inl rfl
  · cases h.int'; exact .inl rfl
  · cases h.str'; exact .inl rfl
  · obtain ⟨us, rfl, _⟩ := h.tup'; exact .inl rfl
  · obtain ⟨l, us, rfl, a, _⟩ := h.lst'; exact .inl (by simp only [dctU, a])
  · exact .inr ⟨_, rfl⟩
  · cases h.fn'; exact .inl rfl
  · exact absurd rfl n
  · obtain ⟨l, us, rfl, a, _⟩ := h.scr'; exact .inl (by simp only [dctU, a])
theorem mem_ok2 {x y : Vl} {ux uy : U} (hx : Br g x ux) (hy : Br g y uy) {b : Bool} (e : memP x y = some b) : memU g.S ux uy = some b := by
  unfold memP at e
  split at e
  · cases hx.str'; cases hy.str'
    exact e
  · rename_i n1
    have d : (match dctU g.S uy with
      | some _ => memD g.S ux uy
      | none => memI g.S ux uy) = some b := by
      split at e
      · rename_i kvs h1
        obtain ⟨l, us, rfl, hl, r⟩ := dct_br hy h1
        rw [show dctU g.S (.ref l) = some us by simp only [dctU, hl]]
        exact memD_ok2 hx hy e
      · rename_i h1
        have d := memI_ok2 hx hy e
        rcases dctU_none hy h1 (fun h => by subst h; exact hy.tkn') with h2 | ⟨o, rfl⟩
        · rw [h2]; exact d
        · unfold memIP at e; cases e
    unfold memU
    split
    · exfalso
      cases hx with
      | rep hx => cases hx with
        | str i => cases hy with
          | rep hy => cases hy with
            | str j => exact n1 _ _ rfl rfl
    · exact d
theorem cmp_ok2 {o : Cop} {x y : Vl} {ux uy : U} (hx : Br g x ux) (hy : Br g y uy) {b : Bool} (e : cmpP o x y = some b) : cmpU g.S o ux uy = some b := by
  unfold cmpP at e
  split at e
  · exact eq_ok2 hx hy e
  · cases h : eqP x y with
    | none => rw [h] at e; cases e
    | some c =>
      rw [h] at e
      show (eqU g.S ux uy).map (!·) = _
      rw [eq_ok2 hx hy h]
      exact e
  · cases hx.int'; cases hy.int'; exact e
  · cases hx.int'; cases hy.int'; exact e
  · cases hx.int'; cases hy.int'; exact e
  · cases hx.int'; cases hy.int'; exact e
  · cases hx.non'; cases hy.non'; exact e
  · cases e
  · cases e
  · rename_i n1 n2 n3
    cases hy.non'
    cases hx with
    | rep h => cases h <;> first | exact e | exact (n1 rfl rfl).elim | exact (n1 rfl).elim | exact (n2 _ rfl).elim | exact (n2 rfl).elim | exact (n3 rfl).elim
    | lst a b => exact e
    | scr a b => exact e
    | dct a b => exact e
  · cases hx.non'; cases hy.non'; exact e
  · cases e
  · cases e
  · rename_i n1 n2 n3
    cases hy.non'
    cases hx with
    | rep h => cases h <;> first | exact e | exact (n1 rfl rfl).elim | exact (n1 rfl).elim | exact (n2 _ rfl).elim | exact (n2 rfl).elim | exact (n3 rfl).elim
    | lst a b => exact e
    | scr a b => exact e
    | dct a b => exact e
  · exact mem_ok2 hx hy e
  · cases h : memP x y with
    | none => rw [h] at e; cases e
    | some c =>
      rw [h] at e
      show (memU g.S ux uy).map (!·) = _
      rw [mem_ok2 hx hy h]
      exact e
  · cases hx.bl'; cases hy.bl'; exact e
  · cases hx.bl'; cases hy.bl'; exact e
  · cases e
theorem tru_ok2 {x : Vl} {ux : U} (hx : Br g x ux) {b : Bool} (e : truP x = some b) : truU g.S ux = some b := by
  unfold truP at e
  split at e
  · cases hx.non'; exact e
  · cases hx.bl'; exact e
  · cases hx.int'; exact e
  · cases hx.str'; exact e
  · obtain ⟨us, rfl, r⟩ := hx.tup'
    rw [← e]
    cases r <;> rfl
  · obtain ⟨l, us, rfl, a, r⟩ := hx.lst'
    simp only [truU, a]
    rw [← e]
    cases r <;> rfl
  · obtain ⟨l, us, rfl, a, r⟩ := hx.dct'
    simp only [truU, a]
    rw [← e]
    cases r <;> rfl
  · obtain ⟨l, us, rfl, a, r⟩ := hx.scr'
    simp only [truU, a]
    rw [← e]
    cases r <;> rfl
  · cases e
theorem RepK.len : ∀ {vs : List (Key × Vl)} {us : List (Key × U)}, RepK g vs us → us.length = vs.length
  | _, _, .nil => rfl
  | _, _, .cons _ r => by rw [List.length_cons, List.length_cons, r.len]
theorem len_ok2 {x : Vl} {ux : U} (hx : Br g x ux) {n : Nat} (e : lenP x = some n) : lenU g.S ux = some n := by
  unfold lenP at e
  split at e
  · cases hx.str'; exact e
  · obtain ⟨us, rfl, r⟩ := hx.tup'
    rw [← e, ← r.len]; rfl
  · obtain ⟨l, us, rfl, a, r⟩ := hx.lst'
    simp only [lenU, a]
    rw [← e, ← r.len]
  · obtain ⟨l, us, rfl, a, r⟩ := hx.scr'
    simp only [lenU, a]
    rw [← e, ← r.len]
  · obtain ⟨l, us, rfl, a, r⟩ := hx.dct'
    simp only [lenU, a]
    rw [← e, ← r.len]
  · cases e
theorem ix_ok2 {x y v : Vl} {ux uy : U} (hx : Br g x ux) (hy : Br g y uy) (e : ixP x y = some v) : ∃ u, ixU g.S ux uy = some u ∧ Rep g v u := by
  unfold ixP at e
  split at e
  · cases hx.str'; cases hy.int'
    split at e
    · rename_i h
      rename_i x i
      cases h2 : atU x.cps.toList i with
      | none => rw [h2] at e; cases e
      | some c =>
        rw [h2] at e
        cases e
        refine ⟨.str ⟨#[c]⟩, ?_, .str _⟩
        simp only [ixU, h, if_true, h2]
        rfl
    · cases e
  · obtain ⟨l, us, rfl, a, r⟩ := hx.lst'
    cases hy.int'
    simp only [ixU, a]
    exact at_ok r e
  · obtain ⟨us, rfl, r⟩ := hx.tup'
    cases hy.int'
    exact at_ok r e
  · obtain ⟨l, us, rfl, a, r⟩ := hx.scr'
    cases hy.int'
    simp only [ixU, a]
    exact at_ok r e
  · obtain ⟨l, us, rfl, a, r⟩ := hx.dct'
    split at e
    · rename_i k hk
      have hk2 := key_br hy hk
      rcases r.get k with ⟨e1, e2⟩ | ⟨v', u, e1, e2, ru⟩
      · rw [e1] at e; cases e
      · rw [e1] at e
        cases e
        exact ⟨u, by simp only [ixU, a, hk2, e2], ru⟩
    · cases e
  · cases e
theorem cut_nw {x v : Vl} {ux : U} {lo hi : Option Int} (hx : Br g x ux) (e : cutP x lo hi = some v) : Nw g v (cutE ux lo hi g.S) := by
  unfold cutP at e
  split at e
  · cases hx.str'
    split at e
    · rename_i h
      cases e
      rw [show cutE (.str _) lo hi g.S = _ from if_pos h]
      exact .old (.str _)
    · cases e
  · obtain ⟨us, rfl, r⟩ := hx.tup'
    cases e
    exact .old (.tup (cut_ok r lo hi))
  · obtain ⟨l, us, rfl, a, r⟩ := hx.lst'
    cases e
    simp only [cutE, a]
    exact .lst (cut_ok r lo hi)
  · obtain ⟨l, us, rfl, a, r⟩ := hx.scr'
    cases e
    simp only [cutE, a]
    exact .lst (cut_ok r lo hi)
  · cases e
theorem isi_ok2 {x : Vl} {ux : U} {t : Ty} (hx : Br g x ux) {b : Bool} (e : isiP x t = some b) : isiU g.S ux t = some b := by
  unfold isiP at e
  split at e <;> first
    | (cases hx.int'; exact e)
    | (cases hx.bl'; exact e)
    | (cases hx.str'; exact e)
    | (cases hx.non'; exact e)
    | (obtain ⟨us, rfl, r⟩ := hx.tup'; exact e)
    | (obtain ⟨l, us, rfl, a, r⟩ := hx.lst'; simp only [isiU, a]; exact e)
    | cases e
theorem BrL.one {x : Vl} {us : List U} (h : BrL g [x] us) : ∃ u, us = [u] ∧ Br g x u := by
  cases h with
  | cons a r => cases r; exact ⟨_, rfl, a⟩
theorem BrL.two {x y : Vl} {us : List U} (h : BrL g [x, y] us) : ∃ u w, us = [u, w] ∧ Br g x u ∧ Br g y w := by
  cases h with
  | cons a r =>
    obtain ⟨w, rfl, b⟩ := r.one
    exact ⟨_, _, rfl, a, b⟩
theorem BrL.three {x y z : Vl} {us : List U} (h : BrL g [x, y, z] us) : ∃ u w k, us = [u, w, k] ∧ Br g x u ∧ Br g y w ∧ Br g z k := by
  cases h with
  | cons a r =>
    obtain ⟨w, k, rfl, b, c⟩ := r.two
    exact ⟨_, _, _, rfl, a, b, c⟩
theorem bi_nw {b : Bi} {xs : List Vl} {v : Vl} {us : List U} (hX : BrL g xs us) (e : biP b xs = some v) : Nw g v (biU b us g.S) := by
  unfold biP at e
  split at e
  · rename_i x
    obtain ⟨u, rfl, hx⟩ := hX.one
    cases h : lenP x with
    | none => rw [h] at e; cases e
    | some n =>
      rw [h] at e
      cases e
      simp only [biU, len_ok2 hx h]
      exact .old (.int _)
  · obtain ⟨u, rfl, hx⟩ := hX.one
    cases hx.int'; cases e; exact .old (.int _)
  · obtain ⟨u, rfl, hx⟩ := hX.one
    cases hx.bl'; cases e; exact .old (.int _)
  · obtain ⟨u, rfl, hx⟩ := hX.one
    cases hx.int'; cases e; exact .old (.int _)
  · obtain ⟨u, w, rfl, hx, hy⟩ := hX.two
    cases hx.int'; cases hy.int'; cases e; exact .old (.int _)
  · obtain ⟨u, w, rfl, hx, hy⟩ := hX.two
    cases hx.int'; cases hy.int'; cases e; exact .old (.int _)
  · obtain ⟨u, w, k, rfl, hx, hy, hz⟩ := hX.three
    cases hx.int'; cases hy.int'; cases hz.int'; cases e; exact .old (.int _)
  · rename_i o vs
    obtain ⟨u, rfl, hx⟩ := hX.one
    obtain ⟨l, us, rfl, a, r⟩ := hx.lst'
    cases h : asIntsP vs with
    | none => rw [h] at e; cases e
    | some ns =>
      rw [h, Option.bind_some] at e
      cases h2 : ns.min? with
      | none => rw [h2] at e; cases e
      | some m =>
        rw [h2] at e
        cases e
        have h3 : List.min? ns = some m := h2
        simp only [biU, itemsU, a, Option.bind_some, r.ints h, h3]
        exact .old (.int _)
  · rename_i o vs
    obtain ⟨u, rfl, hx⟩ := hX.one
    obtain ⟨l, us, rfl, a, r⟩ := hx.lst'
    cases h : asIntsP vs with
    | none => rw [h] at e; cases e
    | some ns =>
      rw [h] at e
      cases e
      simp only [biU, itemsU, a, Option.bind_some, r.ints h]
      exact .old (.int _)
  · rename_i o vs
    obtain ⟨u, rfl, hx⟩ := hX.one
    obtain ⟨l, us, rfl, a, r⟩ := hx.lst'
    cases h : asBlsP vs with
    | none => rw [h] at e; cases e
    | some ns =>
      rw [h] at e
      cases e
      simp only [biU, itemsU, a, Option.bind_some, r.bls h]
      exact .old (.bl _)
  · rename_i o vs
    obtain ⟨u, rfl, hx⟩ := hX.one
    obtain ⟨l, us, rfl, a, r⟩ := hx.lst'
    cases h : asBlsP vs with
    | none => rw [h] at e; cases e
    | some ns =>
      rw [h] at e
      cases e
      simp only [biU, itemsU, a, Option.bind_some, r.bls h]
      exact .old (.bl _)
  · rename_i x
    obtain ⟨u, rfl, hx⟩ := hX.one
    cases h : itemsP x with
    | none =>
      rw [h] at e
      cases hd : dctP x with
      | none => rw [hd] at e; cases e
      | some kvs =>
        rw [hd] at e
        cases e
        obtain ⟨l, us, rfl, hl, r⟩ := dct_br hx hd
        simp only [biU, itemsU, hl, dctU]
        exact .lst r.keys
    | some vs =>
      rw [h] at e
      cases e
      obtain ⟨us, hu, r⟩ := items_br hx h
      simp only [biU, hu]
      exact .lst r
  · rename_i x
    obtain ⟨u, rfl, hx⟩ := hX.one
    cases hd : dctP x with
    | none => rw [hd] at e; cases e
    | some kvs =>
      rw [hd] at e
      cases e
      obtain ⟨l, us, rfl, hl, r⟩ := dct_br hx hd
      simp only [biU, dctU, hl]
      exact .dct r
  · obtain ⟨u, rfl, hx⟩ := hX.one
    obtain ⟨us, rfl, r⟩ := hx.tup'
    cases e
    exact .old (.tup r)
  · obtain ⟨u, rfl, hx⟩ := hX.one
    obtain ⟨l, us, rfl, a, r⟩ := hx.lst'
    cases e
    simp only [biU, itemsU, a]
    exact .old (.tup r)
  · rename_i o vs
    obtain ⟨u, rfl, hx⟩ := hX.one
    obtain ⟨l, us, rfl, a, r⟩ := hx.lst'
    cases h : asIntsP vs with
    | none =>
      rw [h] at e
      cases h2 : asStrsP vs with
      | none => rw [h2] at e; cases e
      | some xs =>
        rw [h2] at e
        have hne : us ≠ [] := by
          rintro rfl
          cases r
          cases h
        have h3 := r.strs h2
        dsimp only at e
        split at e
        · rename_i h64
          cases e
          simp only [biU, itemsU, a, Option.bind_some, asInts_strs h3 hne, h3, h64, if_true]
          exact .lst (.ofStrs _)
        · cases e
    | some ns =>
      rw [h] at e
      cases e
      simp only [biU, itemsU, a, Option.bind_some, r.ints h]
      exact .lst (.ofInts _)
  · rename_i t x
    obtain ⟨u, rfl, hx⟩ := hX.one
    cases h : isiP x t with
    | none => rw [h] at e; cases e
    | some c =>
      rw [h] at e
      cases e
      simp only [biU, isi_ok2 hx h]
      exact .old (.bl _)
  · obtain ⟨u, rfl, hx⟩ := hX.one
    cases hx.str'
    split at e
    · rename_i h
      cases e
      simp only [biU, h]
      exact .old (.int _)
    · cases e
  · obtain ⟨u, rfl, hx⟩ := hX.one
    cases hx.int'
    split at e
    · rename_i h
      cases e
      rw [show biU .str [.int _] g.S = _ from if_pos h]
      exact .old (.str _)
    · cases e
  · obtain ⟨u, rfl, hx⟩ := hX.one
    obtain ⟨l, us, rfl, a, r⟩ := hx.lst'
    cases e
    simp only [biU, itemsU, a]
    exact .lst r.rev
  · cases e
theorem bm_nw {b : Bm} {x : Vl} {xs : List Vl} {v : Vl} {u : U} {us : List U} (hu : Br g x u) (hX : BrL g xs us) (e : bmP b x xs = some v) : Nw g v (bmU b u us g.S) := by
  unfold bmP at e
  split at e
  · rename_i o ws y
    obtain ⟨l, us', rfl, a, r⟩ := hu.lst'
    obtain ⟨w, rfl, hy⟩ := hX.one
    split at e
    · rename_i f
      obtain ⟨ry, fy⟩ := fl_br hy f.1
      simp only [bmU, a, fy, fls_ok r f.2, and_self, if_true, findF_ok2 r ry f.1 f.2]
      cases h : ws.findIdx? (fun z => eqFP z y) with
      | none => rw [h] at e; cases e
      | some j => rw [h] at e; cases e; exact .old (.int _)
    · cases e
  · rename_i a o ws
    cases hu.str'
    obtain ⟨w, rfl, hy⟩ := hX.one
    obtain ⟨l, us', rfl, h2, r⟩ := hy.lst'
    split at e
    · rename_i ys hy
      split at e
      · rename_i h
        cases e
        have h' : (ys.map fun y : Str => y.length).sum + ys.length * a.length ≤ LINE := h
        simp only [bmU, itemsU, h2, Option.bind_some, r.strs hy, h', if_true]
        exact .old (.str _)
      · cases e
    · cases e
  · obtain ⟨l, us', rfl, a, r⟩ := hu.dct'
    obtain ⟨w, rfl, hy⟩ := hX.one
    split at e
    · rename_i k hk
      cases e
      simp only [bmU, a, key_br hy hk]
      rcases r.get k with ⟨e1, e2⟩ | ⟨v', u, e1, e2, ru⟩
      · rw [e1, e2]; exact .old .non
      · rw [e1, e2]; exact .old ru
    · cases e
  · obtain ⟨l, us', rfl, a, r⟩ := hu.dct'
    obtain ⟨w, z, rfl, hy, hz⟩ := hX.two
    split at e
    · rename_i k hk
      split at e
      · rename_i fz
        cases e
        simp only [bmU, a, key_br hy hk]
        rcases r.get k with ⟨e1, e2⟩ | ⟨v', u, e1, e2, ru⟩
        · rw [e1, e2]; exact .old (fl_br hz fz).1
        · rw [e1, e2]; exact .old ru
      · cases e
    · cases e
  · cases e
theorem ty_ok2 {b : Bm} {x : Vl} {xs : List Vl} {v : Vl} {u : U} (hu : Br g x u) (e : bmP b x xs = some v) {S' : Store} (hS : ∀ (l : Nat) (us : List U), g.S[l]? = some (Cell.lst us) → S'[l]? = some (Cell.lst us)) (hD : ∀ (l : Nat) (us : List (Key × U)), g.S[l]? = some (Cell.dct us) → S'[l]? = some (Cell.dct us)) : tyU b S' u = true := by
  unfold bmP at e
  split at e
  · obtain ⟨l, us', rfl, a, r⟩ := hu.lst'
    simp only [tyU, hS _ _ a]
  · cases hu.str'; rfl
  · obtain ⟨l, us', rfl, a, r⟩ := hu.dct'
    simp only [tyU, dctU, hD _ _ a]; rfl
  · obtain ⟨l, us', rfl, a, r⟩ := hu.dct'
    simp only [tyU, dctU, hD _ _ a]; rfl
  · cases e
theorem toV_ok {u : U} {v : Vl} (e : toV u = some v) : Rep g v u := by
  have go : ∀ {us : List U} {vs : List Vl}, toV.flats us = some vs → RepL g vs us := by
    intro us
    induction us with
    | nil => intro vs h; cases h; exact .nil
    | cons u us ih =>
      intro vs h
      cases u <;> first | (cases h; done) | skip
      · rename_i i
        simp only [toV.flats] at h
        cases h1 : toV.flats us with
        | none => rw [h1] at h; cases h
        | some ws => rw [h1] at h; cases h; exact .cons (.int _) (ih h1)
      · rename_i i
        simp only [toV.flats] at h
        cases h1 : toV.flats us with
        | none => rw [h1] at h; cases h
        | some ws => rw [h1] at h; cases h; exact .cons (.str _) (ih h1)
  unfold toV at e
  split at e
  · cases e; exact .non
  · cases e; exact .bl _
  · cases e; exact .int _
  · cases e; exact .str _
  · rename_i us
    cases h : toV.flats us with
    | none => rw [h] at e; cases e
    | some vs => rw [h] at e; cases e; exact .tup (go h)
  · cases e
end
end PyM
set_option linter.all false
set_option autoImplicit false
set_option maxRecDepth 100000
set_option maxHeartbeats 1000000
/-! The pure machine keeps what the small machine does: places, and who owns them. -/
namespace PyM
open PyI
/-- protected from what a frame does while so many temporaries are held -/
def prot (d m : Nat) : Kd → Prop
  | .ext => True
  | .t k => k < m
  | .e k _ => k < d
  | _ => False
structure Ext (d m : Nat) (g g' : Gh) : Prop where
  fro : Fro g g'
  keep : ∀ l, prot d m (g.κ l) → g'.κ l = g.κ l ∧ g'.S[l]? = g.S[l]?
  back : ∀ l, prot d m (g'.κ l) → g'.κ l = g.κ l
  len : g.S.length ≤ g'.S.length
theorem Ext.refl {d m : Nat} (g : Gh) : Ext d m g g := ⟨.refl g, fun _ _ => ⟨rfl, rfl⟩, fun _ _ => rfl, Nat.le_refl _⟩
theorem Ext.trans {d m : Nat} {g g' g'' : Gh} (a : Ext d m g g') (b : Ext d m g' g'') : Ext d m g g'' := by
  refine ⟨a.fro.trans b.fro, fun l h => ?_, fun l h => ?_, Nat.le_trans a.len b.len⟩
  · have h1 := a.keep l h
    have h2 := b.keep l (by rw [h1.1]; exact h)
    exact ⟨h2.1.trans h1.1, h2.2.trans h1.2⟩
  · have h1 := b.back l h
    rw [h1] at h
    exact h1.trans (a.back l h)
theorem prot.le {d m d' m' : Nat} (hd : d ≤ d') (hm : m ≤ m') {k : Kd} (h : prot d m k) : prot d' m' k := by
  cases k <;> simp only [prot] at h ⊢ <;> omega
theorem Ext.le {d m d' m' : Nat} {g g' : Gh} (h : Ext d' m' g g') (hd : d ≤ d') (hm : m ≤ m') : Ext d m g g' := ⟨h.fro, fun l p => h.keep l (p.le hd hm), fun l p => h.back l (p.le hd hm), h.len⟩
/-- what a place holds; k: the kind of a list that it owns -/
inductive Sl (g : Gh) (k : Kd) : Vl → U → Prop where
  | rep {v : Vl} {u : U} : Rep g v u → Sl g k v u
  | own {l : Nat} {vs : List Vl} {us : List U} : g.κ l = k → g.S[l]? = some (.lst us) → RepL g vs us → Sl g k (.lst .own vs) (.ref l)
  | ownD {l : Nat} {vs : List (Key × Vl)} {us : List (Key × U)} : g.κ l = k → g.S[l]? = some (.dct us) → RepK g vs us → Sl g k (.dct .own vs) (.ref l)
  | lent {l : Nat} {vs : List Vl} {us : List U} : g.κ l = .ext → g.S[l]? = some (.lst us) → RepL g vs us → Sl g k (.lst .lent vs) (.ref l)
  | lentD {l : Nat} {vs : List (Key × Vl)} {us : List (Key × U)} : g.κ l = .ext → g.S[l]? = some (.dct us) → RepK g vs us → Sl g k (.dct .lent vs) (.ref l)
  | scr {l : Nat} {vs : List Vl} {us : List U} : g.κ l = .ext → g.S[l]? = some (.fz us) → RepL g vs us → Sl g k (.scr vs) (.ref l)
  | tkn {u : U} : Sl g k .tkn u
theorem Rep.flat {g : Gh} {v : Vl} {u : U} (h : Rep g v u) : kd v = .flat := by cases h <;> rfl
theorem Sl.of_flat {g : Gh} {k : Kd} {v : Vl} {u : U} (h : Sl g k v u) (f : kd v = .flat) : Rep g v u := by
  cases h <;> first | assumption | cases f
theorem Sl.br {g : Gh} {k : Kd} {v : Vl} {u : U} (h : Sl g k v u) (n : v ≠ .tkn) : Br g v u := by
  cases h with
  | rep r => exact .rep r
  | own a b c => exact .lst b c
  | ownD a b c => exact .dct b c
  | lent a b c => exact .lst b c
  | lentD a b c => exact .dct b c
  | scr a b c => exact .scr b c
  | tkn => exact (n rfl).elim
/-- the place of an owned list -/
theorem Sl.own_at {g : Gh} {k : Kd} {v : Vl} {u : U} (h : Sl g k v u) (f : kd v = .own) : ∃ l, u = .ref l ∧ g.κ l = k ∧ (∃ c, g.S[l]? = some c) := by
  cases h with
  | rep r => rw [r.flat] at f; cases f
  | own a b c => exact ⟨_, rfl, a, _, b⟩
  | ownD a b c => exact ⟨_, rfl, a, _, b⟩
  | lent a b c => cases f
  | lentD a b c => cases f
  | scr a b c => cases f
  | tkn => cases f
theorem Sl.bad_at {g : Gh} {k : Kd} {v : Vl} {u : U} (h : Sl g k v u) (f : kd v = .bad) (n : v ≠ .tkn) : ∃ l, u = .ref l ∧ g.κ l = .ext := by
  cases h with
  | rep r => rw [r.flat] at f; cases f
  | own a b c => cases f
  | ownD a b c => cases f
  | lent a b c => exact ⟨_, rfl, a⟩
  | lentD a b c => exact ⟨_, rfl, a⟩
  | scr a b c => exact ⟨_, rfl, a⟩
  | tkn => exact (n rfl).elim
/-- frozen, what is protected and what is of a kind: as before -/
theorem Sl.mono {g g' : Gh} {k : Kd} {v : Vl} {u : U} (h : Sl g k v u) (f : Fro g g') (e : ∀ l, u = .ref l → g.κ l = k ∨ g.κ l = .ext → g'.κ l = g.κ l ∧ g'.S[l]? = g.S[l]?) : Sl g' k v u := by
  cases h with
  | rep r => exact .rep (r.mono f)
  | own a b c => obtain ⟨p, q⟩ := e _ rfl (.inl a); exact .own (p.trans a) (q.trans b) (c.mono f)
  | ownD a b c => obtain ⟨p, q⟩ := e _ rfl (.inl a); exact .ownD (p.trans a) (q.trans b) (c.mono f)
  | lent a b c => obtain ⟨p, q⟩ := e _ rfl (.inr a); exact .lent (p.trans a) (q.trans b) (c.mono f)
  | lentD a b c => obtain ⟨p, q⟩ := e _ rfl (.inr a); exact .lentD (p.trans a) (q.trans b) (c.mono f)
  | scr a b c => obtain ⟨p, q⟩ := e _ rfl (.inr a); exact .scr (p.trans a) (q.trans b) (c.mono f)
  | tkn => exact .tkn
def kindP (d : Nat) : Pl → Kd
  | .var i => .e d i
  | .fld o f => .f o f
theorem kindP_inj {d : Nat} {p q : Pl} (h : kindP d p = kindP d q) : p = q := by
  cases p <;> cases q <;> simp [kindP] at h ⊢ <;> exact h
def getU (uenv : Env) (g : Gh) : Pl → Option U
  | .var i => uenv[i]?.join
  | .fld o f => match g.om[o]? with
    | some l => match g.S[l]? with
      | some (.ins _ ufs) => ufs.lookup f
      | _ => none
    | none => none
structure Inv (d : Nat) (g : Gh) (env : VE) (uenv : Env) (S : OS) : Prop where
  pl : ∀ p v, getP env S p = some v → ∃ u, getU uenv g p = some u ∧ Sl g (kindP d p) v u
  el : env.length = uenv.length
  ol : g.om.length = S.length
  ob : ∀ (o : Nat) (c : Nat) (fs : List (Nat × Vl)), S[o]? = some (c, fs) → ∃ l ufs, g.om[o]? = some l ∧ g.κ l = .o o ∧ g.S[l]? = some (.ins c ufs) ∧ ufs.map (·.1) = fs.map (·.1)
  gar : ∀ l, g.S.length ≤ l → g.κ l = .gar
/-- who is lent or handed over now was so before -/
def LS (g : Gh) (env : VE) (uenv : Env) (S : OS) (g' : Gh) (env' : VE) (uenv' : Env) (S' : OS) : Prop := ∀ p v, getP env' S' p = some v → kd v = .bad → getP env S p = some v ∧ getU uenv' g' p = getU uenv g p
structure Post (d m : Nat) (g : Gh) (env : VE) (uenv : Env) (S : OS) (g' : Gh) (env' : VE) (uenv' : Env) (S' : OS) : Prop where
  inv : Inv d g' env' uenv' S'
  ext : Ext d m g g'
  ls : LS g env uenv S g' env' uenv' S'
section
variable {d m : Nat} {g g' g'' : Gh} {env env' env'' : VE} {uenv uenv' uenv'' : Env} {S S' S'' : OS}
theorem LS.refl : LS g env uenv S g env uenv S := fun _ _ h _ => ⟨h, rfl⟩
theorem LS.trans (a : LS g env uenv S g' env' uenv' S') (b : LS g' env' uenv' S' g'' env'' uenv'' S'') : LS g env uenv S g'' env'' uenv'' S'' := fun p v h k => by
  obtain ⟨h1, h2⟩ := b p v h k
  obtain ⟨h3, h4⟩ := a p v h1 k
  exact ⟨h3, h2.trans h4⟩
theorem Inv.post (h : Inv d g env uenv S) : Post d m g env uenv S g env uenv S := ⟨h, .refl g, .refl⟩
theorem Post.trans (a : Post d m g env uenv S g' env' uenv' S') (b : Post d m g' env' uenv' S' g'' env'' uenv'' S'') : Post d m g env uenv S g'' env'' uenv'' S'' := ⟨b.inv, a.ext.trans b.ext, a.ls.trans b.ls⟩
theorem Post.le {m' : Nat} (a : Post d m' g env uenv S g' env' uenv' S') (h : m ≤ m') : Post d m g env uenv S g' env' uenv' S' := ⟨a.inv, a.ext.le (Nat.le_refl _) h, a.ls⟩

/-! ### reading and putting -/
theorem join_some {α : Type} {o : Option (Option α)} {a : α} : o.join = some a ↔ o = some (some a) := by
  cases o with
  | none => simp
  | some o => simp
theorem getE_set {i j : Nat} {v : Vl} (h : (env[i]?).isSome) : (env.set i (some v))[j]?.join = if j = i then some v else env[j]?.join := by
  rw [List.getElem?_set]
  by_cases e : i = j
  · subst e
    rw [if_pos rfl, if_pos rfl]
    have : i < env.length := by
      rw [Option.isSome_iff_exists] at h
      obtain ⟨a, h⟩ := h
      exact (List.getElem?_eq_some_iff.mp h).1
    simp [this]
  · rw [if_neg e, if_neg (fun h => e h.symm)]
theorem lookup_repF {n f : Nat} {v : Vl} : ∀ {fs : List (Nat × Vl)} {w : Vl}, fs.lookup f = some w → (repF f v fs).lookup n = if n = f then some v else fs.lookup n
  | [], w, h => by cases h
  | (g, x) :: r, w, h => by
    unfold repF
    by_cases e : g = f
    · subst e
      rw [if_pos rfl]
      by_cases e2 : n = g
      · subst e2
        simp
      · rw [if_neg e2]
        have : (n == g) = false := by simpa using e2
        simp only [List.lookup, this]
    · rw [if_neg e]
      have e1 : (f == g) = false := by simpa using fun h => e h.symm
      simp only [List.lookup, e1] at h
      have ih := lookup_repF (n := n) (v := v) h
      by_cases e2 : n = g
      · subst e2
        have : n ≠ f := e
        simp [List.lookup, this]
      · have e3 : (n == g) = false := by simpa using e2
        simp only [List.lookup, e3]
        exact ih
theorem repF_names {f : Nat} {v : Vl} : ∀ (fs : List (Nat × Vl)), (repF f v fs).map (·.1) = fs.map (·.1)
  | [] => rfl
  | (g, x) :: r => by
    unfold repF
    split
    · rename_i e; subst e; rfl
    · rw [List.map_cons, List.map_cons, repF_names r]
theorem getF_at {S : OS} {o f : Nat} {v : Vl} (h : getF S o f = some v) : ∃ c fs, S[o]? = some (c, fs) ∧ fs.lookup f = some v := by
  unfold getF at h
  split at h
  · rename_i c fs e
    exact ⟨c, fs, e, h⟩
  · cases h
theorem getF_set {S : OS} {o f o' f' : Nat} {v w : Vl} (h : getF S o f = some w) : getF (setF S o f v) o' f' = if o' = o ∧ f' = f then some v else getF S o' f' := by
  obtain ⟨c, fs, e, l⟩ := getF_at h
  unfold setF
  rw [e]
  simp only
  unfold getF
  rw [List.getElem?_set]
  have hlt := (List.getElem?_eq_some_iff.mp e).1
  by_cases eo : o = o'
  · subst eo
    rw [if_pos rfl, if_pos hlt]
    simp only [true_and, e]
    exact lookup_repF l
  · rw [if_neg eo, if_neg (fun h => eo h.1.symm)]
theorem get_put {p q : Pl} {v w : Vl} (h : getP env S p = some w) : getP (putE env p v) (putS S p v) q = if q = p then some v else getP env S q := by
  cases p with
  | var i =>
    cases q with
    | var j =>
      simp only [getP, putE]
      rw [getE_set (by simp only [getP] at h; rw [join_some] at h; rw [h]; rfl)]
      by_cases e : j = i
      · subst e; simp
      · rw [if_neg e, if_neg (by simpa using e)]
    | fld o f => simp [getP, putS]
  | fld o f =>
    cases q with
    | var j => simp [getP, putE]
    | fld o' f' =>
      simp only [getP, putS]
      rw [getF_set h]
      by_cases e : o' = o ∧ f' = f
      · rw [if_pos e, if_pos (by rw [e.1, e.2])]
      · rw [if_neg e, if_neg (by simpa using e)]
theorem put_len {p : Pl} {v : Vl} : (putE env p v).length = env.length := by cases p <;> simp [putE]
theorem putS_len {p : Pl} {v : Vl} : (putS S p v).length = S.length := by
  cases p with
  | var i => rfl
  | fld o f =>
    simp only [putS, setF]
    split
    · simp
    · rfl
theorem putS_at {p : Pl} {v : Vl} {o c : Nat} {fs : List (Nat × Vl)} (h : (putS S p v)[o]? = some (c, fs)) : ∃ fs', S[o]? = some (c, fs') ∧ fs'.map (·.1) = fs.map (·.1) := by
  cases p with
  | var i => exact ⟨fs, h, rfl⟩
  | fld o' f =>
    simp only [putS, setF] at h
    split at h
    · rename_i c' fs' e
      rw [List.getElem?_set] at h
      by_cases eo : o' = o
      · subst eo
        rw [if_pos rfl, if_pos (List.getElem?_eq_some_iff.mp e).1] at h
        cases h
        exact ⟨fs', e, (repF_names fs').symm⟩
      · rw [if_neg eo] at h
        exact ⟨fs, h, rfl⟩
    · exact ⟨fs, h, rfl⟩

/-! ### one place of the store changes -/
structure Chg (g g' : Gh) (l0 : Nat) : Prop where
  om : g'.om = g.om
  ne : ∀ l, l ≠ l0 → g'.κ l = g.κ l ∧ g'.S[l]? = g.S[l]?
  len : g'.S.length = g.S.length
theorem Chg.fro {l0 : Nat} (h : Chg g g' l0) (n : g.κ l0 ≠ .fro) : Fro g g' := ⟨fun l e => by
  have : l ≠ l0 := fun e2 => n (e2 ▸ e)
  exact ⟨(h.ne l this).1.trans e, (h.ne l this).2⟩, by rw [h.om]; exact List.prefix_refl _⟩
theorem Chg.ext {l0 : Nat} (h : Chg g g' l0) (n : g.κ l0 ≠ .fro) (p : ¬ prot d m (g.κ l0)) (p' : ¬ prot d m (g'.κ l0)) : Ext d m g g' := by
  refine ⟨h.fro n, fun l e => ?_, fun l e => ?_, by rw [h.len]; exact Nat.le_refl _⟩
  · exact h.ne l fun e2 => p (e2 ▸ e)
  · exact (h.ne l fun e2 => p' (e2 ▸ e)).1
/-- names of the store do not hang on lists -/
theorem Chg.getU {l0 : Nat} (h : Chg g g' l0) (I : Inv d g env uenv S) (n : ∀ o, g.κ l0 ≠ .o o) {p : Pl} (hp : ∀ o f, p = .fld o f → o < S.length) : getU uenv g' p = getU uenv g p := by
  cases p with
  | var i => rfl
  | fld o f =>
    have ho := hp o f rfl
    obtain ⟨c, fs, e⟩ : ∃ c fs, S[o]? = some (c, fs) := ⟨S[o].1, S[o].2, List.getElem?_eq_getElem ho⟩
    obtain ⟨l, ufs, h1, h2, h3, h4⟩ := I.ob o c fs e
    have hl : l ≠ l0 := fun e2 => n o (e2 ▸ h2)
    simp only [PyM.getU, h.om, h1, (h.ne l hl).2]
theorem getP_lt {p : Pl} {v : Vl} (h : getP env S p = some v) : ∀ o f, p = .fld o f → o < S.length := by
  rintro o f rfl
  obtain ⟨c, fs, e, _⟩ := getF_at h
  exact (List.getElem?_eq_some_iff.mp e).1
/-- a place is put; what it held, or holds, stands at l0 -/
theorem Inv.put {l0 : Nat} {p : Pl} {v v0 : Vl} {u : U} (I : Inv d g env uenv S) (h0 : getP env S p = some v0) (hu : getU uenv g p = some u) (h : Chg g g' l0) (n : g.κ l0 ≠ .fro) (no : ∀ o, g.κ l0 ≠ .o o) (hl : l0 < g.S.length)
    (oth : ∀ q w x, q ≠ p → getP env S q = some w → getU uenv g q = some x → kd w ≠ .flat → w ≠ .tkn → x ≠ .ref l0) (hs : Sl g' (kindP d p) v u) : Inv d g' (putE env p v) uenv (putS S p v) where
  pl := fun q w hq => by
    rw [get_put h0] at hq
    by_cases e : q = p
    · subst e
      rw [if_pos rfl] at hq
      cases hq
      exact ⟨u, by rw [h.getU I no (getP_lt h0)]; exact hu, hs⟩
    · rw [if_neg e] at hq
      obtain ⟨x, hx, s⟩ := I.pl q w hq
      refine ⟨x, by rw [h.getU I no (getP_lt hq)]; exact hx, ?_⟩
      by_cases f : kd w = .flat
      · exact .rep ((s.of_flat f).mono (h.fro n))
      · by_cases t : w = .tkn
        · subst t; exact .tkn
        · exact s.mono (h.fro n) fun l e2 _ => h.ne l fun e3 => oth q w x e hq hx f t (by rw [e2, e3])
  el := by rw [put_len]; exact I.el
  ol := by rw [putS_len, h.om]; exact I.ol
  ob := fun o c fs e => by
    obtain ⟨fs', e', nm⟩ := putS_at e
    obtain ⟨l, ufs, h1, h2, h3, h4⟩ := I.ob o c fs' e'
    have : l ≠ l0 := fun e2 => no o (e2 ▸ h2)
    exact ⟨l, ufs, by rw [h.om]; exact h1, (h.ne l this).1.trans h2, (h.ne l this).2.trans h3, h4.trans nm⟩
  gar := fun l e => by
    rw [h.len] at e
    rw [(h.ne l (by omega)).1]
    exact I.gar l e
/-- an owned list's place is nobody else's -/
theorem Inv.alone {l0 : Nat} {p : Pl} (I : Inv d g env uenv S) (hk : g.κ l0 = kindP d p) : ∀ q w x, q ≠ p → getP env S q = some w → getU uenv g q = some x → kd w ≠ .flat → w ≠ .tkn → x ≠ .ref l0 := fun q w x hq h1 h2 f t e => by
  obtain ⟨x', h2', s⟩ := I.pl q w h1
  rw [h2] at h2'
  cases h2'
  cases hk1 : kd w with
  | flat => exact f hk1
  | own =>
    obtain ⟨l, e2, e3, _⟩ := s.own_at hk1
    rw [e] at e2
    cases e2
    exact hq (kindP_inj (e3.symm.trans hk))
  | bad =>
    obtain ⟨l, e2, e3⟩ := s.bad_at hk1 t
    rw [e] at e2
    cases e2
    rw [hk] at e3
    cases p <;> cases e3
/-- so is the place of what nobody names -/
theorem Inv.idle {l0 : Nat} (I : Inv d g env uenv S) (h1 : ∀ p, g.κ l0 ≠ kindP d p) (h2 : g.κ l0 ≠ .ext) : ∀ q w x, getP env S q = some w → getU uenv g q = some x → kd w ≠ .flat → w ≠ .tkn → x ≠ .ref l0 := fun q w x hq hx f t e => by
  obtain ⟨x', h2', s⟩ := I.pl q w hq
  rw [hx] at h2'
  cases h2'
  cases hk1 : kd w with
  | flat => exact f hk1
  | own =>
    obtain ⟨l, e2, e3, _⟩ := s.own_at hk1
    rw [e] at e2
    cases e2
    exact h1 q e3
  | bad =>
    obtain ⟨l, e2, e3⟩ := s.bad_at hk1 t
    rw [e] at e2
    cases e2
    exact h2 e3
def Gh.up (g : Gh) (l : Nat) (k : Kd) : Gh := { g with κ := fun x => if x = l then k else g.κ x }
def Gh.cell (g : Gh) (l : Nat) (c : Cell) : Gh := { g with S := g.S.set l c }
def Gh.new (g : Gh) (c : Cell) (k : Kd) : Gh := { κ := fun x => if x = g.S.length then k else g.κ x, om := g.om, S := g.S ++ [c] }
theorem Gh.up_at (g : Gh) (l : Nat) (k : Kd) : (g.up l k).κ l = k := if_pos rfl
theorem Gh.up_ne (g : Gh) {l x : Nat} (k : Kd) (h : x ≠ l) : (g.up l k).κ x = g.κ x := if_neg h
theorem Gh.up_chg (g : Gh) (l : Nat) (k : Kd) : Chg g (g.up l k) l := ⟨rfl, fun x h => ⟨g.up_ne k h, rfl⟩, rfl⟩
theorem Gh.cell_chg (g : Gh) (l : Nat) (c : Cell) : Chg g (g.cell l c) l := ⟨rfl, fun x h => ⟨rfl, by
  show (g.S.set l c)[x]? = _
  rw [List.getElem?_set, if_neg (fun e => h e.symm)]⟩, by show (g.S.set l c).length = _; simp⟩
theorem Chg.trans {l0 : Nat} (a : Chg g g' l0) (b : Chg g' g'' l0) : Chg g g'' l0 := ⟨b.om.trans a.om, fun l h => ⟨(b.ne l h).1.trans (a.ne l h).1, (b.ne l h).2.trans (a.ne l h).2⟩, b.len.trans a.len⟩
end
end PyM
set_option linter.all false
set_option autoImplicit false
set_option maxRecDepth 100000
set_option maxHeartbeats 1000000
/-! Quiet expressions add to the store, and change nothing. -/
namespace PyM
open PyI
def Adds {α : Type} (S : Store) (r : R α) : Prop := ∀ a S', r = .val a S' → ∃ T, S' = S ++ T
theorem Adds.val {α : Type} {S : Store} {a : α} : Adds S (.val a S) := fun _ _ h => by cases h; exact ⟨[], by simp⟩
theorem Adds.stuck {α : Type} {S : Store} : Adds S (.stuck : R α) := fun _ _ h => by cases h
theorem Adds.ofO {α : Type} {S : Store} {o : Option α} : Adds S (ofO S o) := by
  cases o with
  | none => exact .stuck
  | some a => exact .val
theorem Adds.newC {S : Store} {c : Cell} : Adds S (newC c S) := fun _ _ h => by cases h; exact ⟨_, rfl⟩
theorem Adds.newL {S : Store} {us : List U} : Adds S (newL us S) := by
  unfold PyI.newL
  split
  · exact .newC
  · exact .stuck
theorem Adds.bind {α β : Type} {S : Store} {r : R α} {f : α → Store → R β} (h : Adds S r) (k : ∀ a S', Adds S' (f a S')) : Adds S (r.bind f) := by
  intro b S' e
  cases r with
  | val a S1 =>
    obtain ⟨T, rfl⟩ := h a S1 rfl
    obtain ⟨T2, rfl⟩ := k a _ b S' e
    exact ⟨T ++ T2, by rw [List.append_assoc]⟩
  | exc c d S1 => cases e
  | stuck => cases e
theorem adds_bin {o : Bop} {x y : U} {S : Store} : Adds S (binU o x y S) := by
  unfold binU
  split <;> (repeat' split) <;> first | exact .val | exact .stuck | exact .newL
theorem adds_cut {x : U} {lo hi : Option Int} {S : Store} : Adds S (cutE x lo hi S) := by
  unfold cutE
  split <;> (repeat' split) <;> first | exact .val | exact .stuck | exact .newC
theorem adds_bi {b : Bi} {us : List U} {S : Store} : Adds S (biU b us S) := by
  unfold biU
  split <;> (repeat' split) <;> first | exact .val | exact .stuck | exact .newC | exact .ofO
theorem adds_bm {b : Bm} {x : U} {us : List U} {S : Store} (h : mutB b = false) : Adds S (bmU b x us S) := by
  cases b <;> first | (cases h; done) | skip
  all_goals
    unfold bmU
    split <;> first | contradiction | ((repeat' split) <;> first | exact .val | exact .stuck | exact .newC | exact .ofO)
section
variable (P : Pg) (cf : Nat → List U → Store → R U)
theorem q2 {a b : Bool} (h : (a && b) = true) : a = true ∧ b = true := Bool.and_eq_true_iff.mp h
mutual
theorem quiet_adds : ∀ (e : E) (env : Env) (S : Store), quiet e = true → Adds S (ev P cf e env S)
  | .var i, env, S, _ => by
    unfold ev
    split
    · exact .val
    · exact .stuck
  | .mov i, env, S, _ => by
    unfold ev
    split
    · exact .val
    · exact .stuck
  | .int i, env, S, _ => by unfold ev; exact .val
  | .str i, env, S, _ => by unfold ev; exact .val
  | .bl i, env, S, _ => by unfold ev; exact .val
  | .non, env, S, _ => by unfold ev; exact .val
  | .esc i q a b c d, env, S, _ => by
    unfold ev
    split
    · exact .ofO
    · exact .stuck
  | .glo i, env, S, _ => by unfold ev; exact .ofO
  | .fnv i, env, S, _ => by unfold ev; exact .val
  | .bin o a b, env, S, h => by
    unfold quiet at h
    unfold ev
    exact (quiet_adds a env S (q2 h).1).bind fun x S1 => (quiet_adds b env S1 (q2 h).2).bind fun y S2 => adds_bin
  | .neg a, env, S, h => by
    unfold quiet at h
    unfold ev
    refine (quiet_adds a env S h).bind fun x S1 => ?_
    split
    · exact .val
    · exact .stuck
  | .cmp o a b, env, S, h => by
    unfold quiet at h
    unfold ev
    exact (quiet_adds a env S (q2 h).1).bind fun x S1 => (quiet_adds b env S1 (q2 h).2).bind fun y S2 => .ofO
  | .cmp2 o p a b c, env, S, h => by
    unfold quiet at h
    unfold ev
    refine (quiet_adds a env S (q2 h).1).bind fun x S1 => (quiet_adds b env S1 (q2 (q2 h).2).1).bind fun y S2 => ?_
    split
    · exact (quiet_adds c env S2 (q2 (q2 h).2).2).bind fun z S3 => .ofO
    · exact .val
    · exact .stuck
  | .and a b, env, S, h => by
    unfold quiet at h
    unfold ev
    refine (quiet_adds a env S (q2 h).1).bind fun x S1 => ?_
    split
    · exact quiet_adds b env S1 (q2 h).2
    · exact .val
    · exact .stuck
  | .or a b, env, S, h => by
    unfold quiet at h
    unfold ev
    refine (quiet_adds a env S (q2 h).1).bind fun x S1 => ?_
    split
    · exact .val
    · exact quiet_adds b env S1 (q2 h).2
    · exact .stuck
  | .not a, env, S, h => by
    unfold quiet at h
    unfold ev
    exact (quiet_adds a env S h).bind fun x S1 => .ofO
  | .ife c a b, env, S, h => by
    unfold quiet at h
    unfold ev
    refine (quiet_adds c env S (q2 h).1).bind fun x S1 => ?_
    split
    · exact quiet_adds a env S1 (q2 (q2 h).2).1
    · exact quiet_adds b env S1 (q2 (q2 h).2).2
    · exact .stuck
  | .tup es, env, S, h => by
    unfold quiet at h
    unfold ev
    refine (quiets_adds es env S h).bind fun us S1 => ?_
    split
    · exact .val
    · exact .stuck
  | .lst es, env, S, h => by
    unfold quiet at h
    unfold ev
    exact (quiets_adds es env S h).bind fun us S1 => .newL
  | .ix a b, env, S, h => by
    unfold quiet at h
    unfold ev
    exact (quiet_adds a env S (q2 h).1).bind fun x S1 => (quiet_adds b env S1 (q2 h).2).bind fun y S2 => .ofO
  | .cut a lo hi, env, S, h => by
    unfold quiet at h
    unfold ev
    exact (quiet_adds a env S (q2 h).1).bind fun x S1 => (quietO_adds lo env S1 (q2 (q2 h).2).1).bind fun y S2 => (quietO_adds hi env S2 (q2 (q2 h).2).2).bind fun z S3 => adds_cut
  | .fld a f, env, S, h => by
    unfold quiet at h
    unfold ev
    refine (quiet_adds a env S h).bind fun x S1 => ?_
    split <;> (repeat' split) <;> first | exact .ofO | exact .stuck
  | .bi b es, env, S, h => by
    unfold quiet at h
    unfold ev
    exact (quiets_adds es env S h).bind fun us S1 => adds_bi
  | .bm b o es, env, S, h => by
    unfold quiet at h
    unfold ev
    refine (quiet_adds o env S (q2 (q2 h).2).1).bind fun x S1 => ?_
    split
    · exact (quiets_adds es env S1 (q2 (q2 h).2).2).bind fun us S1 => adds_bm (by simpa using (q2 h).1)
    · exact .stuck
  | .dict0, env, S, _ => by unfold ev; exact .newC
  | .stk, env, S, _ => by unfold ev; exact .stuck
  | .dctL _, env, S, h => by unfold quiet at h; cases h
  | .call _ _, env, S, h => by unfold quiet at h; cases h
  | .callv _ _, env, S, h => by unfold quiet at h; cases h
  | .meth _ _ _, env, S, h => by unfold quiet at h; cases h
  | .mk _ _, env, S, h => by unfold quiet at h; cases h
  | .comp _ _ _ _ _, env, S, h => by unfold quiet at h; cases h
  | .comp2 _ _ _ _ _ _ _ _ _, env, S, h => by unfold quiet at h; cases h
theorem quiets_adds : ∀ (e : Es) (env : Env) (S : Store), quiets e = true → Adds S (evs P cf e env S)
  | .nil, env, S, _ => by unfold evs; exact .val
  | .cons e r, env, S, h => by
    unfold quiets at h
    unfold evs
    exact (quiet_adds e env S (q2 h).1).bind fun x S1 => (quiets_adds r env S1 (q2 h).2).bind fun y S2 => .val
theorem quietO_adds : ∀ (e : Eo) (env : Env) (S : Store), quietO e = true → Adds S (evo P cf e env S)
  | .none, env, S, _ => by unfold evo; exact .val
  | .some e, env, S, h => by
    unfold quietO at h
    unfold evo
    refine (quiet_adds e env S h).bind fun x S1 => ?_
    split
    · exact .val
    · exact .stuck
end
end
end PyM
set_option linter.all false
set_option autoImplicit false
set_option maxRecDepth 100000
set_option maxHeartbeats 1000000
/-! The pure machine keeps what the small machine does: steps. -/
namespace PyM
open PyI
/-- a temporary -/
def Tm2 (m : Nat) (g : Gh) (v : Vl) (u : U) : Prop := Sl g (.t m) v u ∧ kd v ≠ .bad
def Sat (d m : Nat) (g : Gh) (env : VE) (uenv : Env) (S : OS) {α β : Type} (rel : Gh → α → β → Prop) (r : RP α) (x : R β) : Prop := match r with
  | .val a env' S' => ∃ g' b, x = .val b g'.S ∧ Post d m g env uenv S g' env' uenv S' ∧ rel g' a b
  | .exc c env' S' => ∃ g', x = .exc c none g'.S ∧ Post d m g env uenv S g' env' uenv S'
  | .stuck => True
section
variable {d m : Nat} {g g' g'' : Gh} {env env' env'' : VE} {uenv uenv' uenv'' : Env} {S S' S'' : OS} {α β γ δ : Type}
theorem Sat.stuck {rel : Gh → α → β → Prop} {x : R β} : Sat d m g env uenv S rel .stuck x := trivial
theorem Sat.val {rel : Gh → α → β → Prop} {a : α} {b : β} (I : Inv d g env uenv S) (r : rel g a b) : Sat d m g env uenv S rel (.val a env S) (.val b g.S) := ⟨g, b, rfl, I.post, r⟩
theorem Sat.imp {rel rel' : Gh → α → β → Prop} {r : RP α} {x : R β} (h : Sat d m g env uenv S rel r x) (k : ∀ g a b, rel g a b → rel' g a b) : Sat d m g env uenv S rel' r x := by
  cases r with
  | val a env' S' => obtain ⟨g', b, e, p, q⟩ := h; exact ⟨g', b, e, p, k _ _ _ q⟩
  | exc c env' S' => exact h
  | stuck => trivial
theorem Sat.le {rel : Gh → α → β → Prop} {r : RP α} {x : R β} {m' : Nat} (h : Sat d m' g env uenv S rel r x) (hm : m ≤ m') : Sat d m g env uenv S rel r x := by
  cases r with
  | val a env' S' => obtain ⟨g', b, e, p, q⟩ := h; exact ⟨g', b, e, p.le hm, q⟩
  | exc c env' S' => obtain ⟨g', e, p⟩ := h; exact ⟨g', e, p.le hm⟩
  | stuck => trivial
theorem Sat.post {rel : Gh → α → β → Prop} {r : RP α} {x : R β} (p : Post d m g env uenv S g' env' uenv S') (h : Sat d m g' env' uenv S' rel r x) : Sat d m g env uenv S rel r x := by
  cases r with
  | val a env' S' => obtain ⟨g', b, e, p', q⟩ := h; exact ⟨g', b, e, p.trans p', q⟩
  | exc c env' S' => obtain ⟨g', e, p'⟩ := h; exact ⟨g', e, p.trans p'⟩
  | stuck => trivial
theorem Sat.bind {rel : Gh → α → β → Prop} {rel2 : Gh → γ → δ → Prop} {r : RP α} {x : R β} {f : α → VE → OS → RP γ} {h : β → Store → R δ} (s : Sat d m g env uenv S rel r x)
    (k : ∀ g' env' S' a b, Post d m g env uenv S g' env' uenv S' → rel g' a b → Sat d m g' env' uenv S' rel2 (f a env' S') (h b g'.S)) : Sat d m g env uenv S rel2 (r.bind f) (x.bind h) := by
  cases r with
  | val a env' S' => obtain ⟨g', b, rfl, p, q⟩ := s; exact .post p (k g' env' S' a b p q)
  | exc c env' S' => obtain ⟨g', rfl, p⟩ := s; exact ⟨g', rfl, p⟩
  | stuck => trivial
theorem Tm2.ne {m : Nat} {v : Vl} {u : U} (h : Tm2 m g v u) : v ≠ .tkn := fun e => by subst e; exact h.2 rfl
theorem Tm2.br {m : Nat} {v : Vl} {u : U} (h : Tm2 m g v u) : Br g v u := h.1.br h.ne
theorem Tm2.rep {m : Nat} {v : Vl} {u : U} (h : Rep g v u) : Tm2 m g v u := ⟨.rep h, by rw [h.flat]; intro e; cases e⟩
theorem Sat.br {r : RP Vl} {x : R U} (h : Sat d m g env uenv S (Tm2 m) r x) : Sat d m g env uenv S Br r x := h.imp fun _ _ _ => Tm2.br
theorem kind_ne_gar {p : Pl} : kindP d p ≠ .gar := by cases p <;> intro h <;> cases h
/-- a new thing of the store -/
theorem Inv.new (I : Inv d g env uenv S) (c : Cell) (k : Kd) : Inv d (g.new c k) env uenv S := by
  have hne : ∀ l, g.κ l ≠ .gar → l < g.S.length := fun l h => by
    by_cases e : l < g.S.length
    · exact e
    · exact (h (I.gar l (by omega))).elim
  have hk : ∀ l, g.κ l ≠ .gar → (g.new c k).κ l = g.κ l ∧ (g.new c k).S[l]? = g.S[l]? := fun l h => by
    have := hne l h
    exact ⟨if_neg (by omega), List.getElem?_append_left this⟩
  have hf : Fro g (g.new c k) := ⟨fun l e => by have := hk l (by rw [e]; intro h; cases h); exact ⟨this.1.trans e, this.2⟩, List.prefix_refl _⟩
  have hg : ∀ p v, getP env S p = some v → getU uenv (g.new c k) p = getU uenv g p := by
    intro p v h
    cases p with
    | var i => rfl
    | fld o f =>
      obtain ⟨c', fs, e, _⟩ := getF_at h
      obtain ⟨l, ufs, h1, h2, h3, h4⟩ := I.ob o c' fs e
      have := (hk l (by rw [h2]; intro h; cases h)).2
      simp only [getU]
      rw [show (g.new c k).om = g.om from rfl, h1]
      simp only [this]
  refine ⟨fun p v h => ?_, I.el, I.ol, fun o c' fs e => ?_, fun l h => ?_⟩
  · obtain ⟨u, hu, s⟩ := I.pl p v h
    refine ⟨u, (hg p v h).trans hu, s.mono hf fun l _ e => hk l ?_⟩
    rcases e with e | e <;> rw [e]
    · exact kind_ne_gar
    · intro h; cases h
  · obtain ⟨l, ufs, h1, h2, h3, h4⟩ := I.ob o c' fs e
    have := hk l (by rw [h2]; intro h; cases h)
    exact ⟨l, ufs, h1, this.1.trans h2, this.2.trans h3, h4⟩
  · rw [show (g.new c k).S = g.S ++ [c] from rfl, List.length_append] at h
    simp only [List.length_cons, List.length_nil] at h
    exact (if_neg (by omega)).trans (I.gar l (by omega))
theorem Ext.new (I : Inv d g env uenv S) (c : Cell) {k : Kd} (h : ¬ prot d m k) : Ext d m g (g.new c k) := by
  have hne : ∀ l, g.κ l ≠ .gar → l < g.S.length := fun l h => by
    by_cases e : l < g.S.length
    · exact e
    · exact (h (I.gar l (by omega))).elim
  have hk : ∀ l, g.κ l ≠ .gar → (g.new c k).κ l = g.κ l ∧ (g.new c k).S[l]? = g.S[l]? := fun l h => by
    have := hne l h
    exact ⟨if_neg (by omega), List.getElem?_append_left this⟩
  refine ⟨⟨fun l e => by have := hk l (by rw [e]; intro h; cases h); exact ⟨this.1.trans e, this.2⟩, List.prefix_refl _⟩, fun l p => hk l (fun e => by rw [e] at p; exact p), fun l p => ?_, ?_⟩
  · by_cases e : l = g.S.length
    · exfalso
      apply h
      have : (g.new c k).κ l = k := if_pos e
      rwa [this] at p
    · exact if_neg e
  · show g.S.length ≤ (g.S ++ [c]).length
    simp
theorem LS.new (I : Inv d g env uenv S) (c : Cell) (k : Kd) : LS g env uenv S (g.new c k) env uenv S := fun p v h _ => ⟨h, by
  cases p with
  | var i => rfl
  | fld o f =>
    obtain ⟨c', fs, e, _⟩ := getF_at h
    obtain ⟨l, ufs, h1, h2, h3, h4⟩ := I.ob o c' fs e
    have : l < g.S.length := by
      by_cases e : l < g.S.length
      · exact e
      · have := I.gar l (by omega); rw [h2] at this; cases this
    have e2 : (g.new c k).S[l]? = g.S[l]? := List.getElem?_append_left this
    simp only [getU]
    rw [show (g.new c k).om = g.om from rfl, h1]
    simp only [e2]⟩
theorem not_prot_t : ¬ prot d m (.t m) := fun h => Nat.lt_irrefl _ h
theorem Inv.newP (I : Inv d g env uenv S) (c : Cell) {k : Kd} (h : ¬ prot d m k) : Post d m g env uenv S (g.new c k) env uenv S := ⟨I.new c k, .new I c h, .new I c k⟩
theorem new_at (g : Gh) (c : Cell) (k : Kd) : (g.new c k).S[g.S.length]? = some c := by
  show (g.S ++ [c])[g.S.length]? = _
  simp
theorem new_kind (g : Gh) (c : Cell) (k : Kd) : (g.new c k).κ g.S.length = k := if_pos rfl
theorem Sat.nw {v : Vl} {r : R U} (I : Inv d g env uenv S) (h : Nw g v r) : Sat d m g env uenv S (Tm2 m) (.val v env S) r := by
  cases h with
  | old r => exact .val I (Tm2.rep r)
  | @lst vs us r =>
    have p := I.newP (m := m) (.lst us) (k := .t m) not_prot_t
    exact ⟨g.new (.lst us) (.t m), _, rfl, p, .own (new_kind _ _ _) (new_at _ _ _) (r.mono p.ext.fro), by intro h; cases h⟩
  | @dct vs us r =>
    have p := I.newP (m := m) (.dct us) (k := .t m) not_prot_t
    exact ⟨g.new (.dct us) (.t m), _, rfl, p, .ownD (new_kind _ _ _) (new_at _ _ _) (r.mono p.ext.fro), by intro h; cases h⟩
theorem Sat.ofP {o : Option Vl} {r : R U} (I : Inv d g env uenv S) (h : ∀ v, o = some v → Nw g v r) : Sat d m g env uenv S (Tm2 m) (ofP env S o) r := by
  cases o with
  | none => trivial
  | some v => exact .nw I (h v rfl)
theorem Sat.ofB {m' : Nat} {o : Option Bool} {r : R U} (I : Inv d g env uenv S) (h : ∀ v, o = some v → r = .val (.bl v) g.S) : Sat d m g env uenv S (Tm2 m') (PyM.ofP env S (o.map .bl)) r := by
  cases o with
  | none => trivial
  | some v => rw [h v rfl]; exact .val I (Tm2.rep (.bl v))
theorem Br.adds {v : Vl} {u : U} (h : Br g v u) (f : Fro g g') {T : Store} (e : g'.S = g.S ++ T) : Br g' v u := by
  have hS : ∀ {l : Nat} {c : Cell}, g.S[l]? = some c → g'.S[l]? = some c := fun {l c} h => by
    rw [e, List.getElem?_append_left (List.getElem?_eq_some_iff.mp h).1, h]
  cases h with
  | rep r => exact .rep (r.mono f)
  | lst a b => exact .lst (hS a) (b.mono f)
  | scr a b => exact .scr (hS a) (b.mono f)
  | dct a b => exact .dct (hS a) (b.mono f)
/-- a temporary that is held -/
theorem Tm2.held {v : Vl} {u : U} {m' : Nat} (h : Tm2 m g v u) (e : Ext d m' g g') (hm : m < m') : Tm2 m g' v u := by
  refine ⟨h.1.mono e.fro fun l _ k => e.keep l ?_, h.2⟩
  rcases k with k | k <;> rw [k]
  · exact hm
  · trivial
/-- one operand and what follows -/
theorem Sat.opd {q : Bool} {relb : Gh → α → β → Prop} {rel2 : Gh → γ → δ → Prop} {ra : RP Vl} {xa : R U} {rb : Vl → VE → OS → RP α} {xb : U → Store → R β} {f : Vl → α → VE → OS → RP γ} {h : U → β → Store → R δ}
    (sa : if q then Sat d m g env uenv S Br ra xa else Sat d m g env uenv S (Tm2 m) ra xa)
    (sb : ∀ g1 env1 S1 v u, Inv d g1 env1 uenv S1 → Br g1 v u → ∀ m1, m ≤ m1 → m1 ≤ m + 1 → Sat d m1 g1 env1 uenv S1 relb (rb v env1 S1) (xb u g1.S))
    (qt : q = true → ∀ u St, Adds St (xb u St))
    (k : ∀ g2 env2 S2 v u w y, Inv d g2 env2 uenv S2 → Br g2 v u → relb g2 w y → Sat d m g2 env2 uenv S2 rel2 (f v w env2 S2) (h u y g2.S)) :
    Sat d m g env uenv S rel2 (ra.bind fun v env S => (rb v env S).bind fun w env S => f v w env S) (xa.bind fun u St => (xb u St).bind fun y St => h u y St) := by
  cases q with
  | true =>
    refine Sat.bind sa fun g1 env1 S1 v u p br => ?_
    have s := sb g1 env1 S1 v u p.inv br m (Nat.le_refl _) (by omega)
    cases hr : rb v env1 S1 with
    | val w env2 S2 =>
      rw [hr] at s
      obtain ⟨g2, y, e, p2, r2⟩ := s
      obtain ⟨T, hT⟩ := qt rfl u g1.S y g2.S e
      rw [e]
      exact .post p2 (k g2 env2 S2 v u w y p2.inv (br.adds p2.ext.fro hT) r2)
    | exc c env2 S2 =>
      rw [hr] at s
      obtain ⟨g2, e, p2⟩ := s
      rw [e]
      exact ⟨g2, rfl, p2⟩
    | stuck => trivial
  | false =>
    refine Sat.bind sa fun g1 env1 S1 v u p tm => ?_
    have s := sb g1 env1 S1 v u p.inv tm.br (m + 1) (by omega) (by omega)
    cases hr : rb v env1 S1 with
    | val w env2 S2 =>
      rw [hr] at s
      obtain ⟨g2, y, e, p2, r2⟩ := s
      rw [e]
      exact .post (p2.le (by omega)) (k g2 env2 S2 v u w y p2.inv (tm.held p2.ext (by omega)).br r2)
    | exc c env2 S2 =>
      rw [hr] at s
      obtain ⟨g2, e, p2⟩ := s
      rw [e]
      exact ⟨g2, rfl, p2.le (by omega)⟩
    | stuck => trivial

/-! ### places -/
theorem not_prot_kind {p : Pl} : ¬ prot d m (kindP d p) := by
  cases p with
  | var i => exact fun h => Nat.lt_irrefl _ h
  | fld o f => exact fun h => h
theorem kind_ne_fro {p : Pl} : kindP d p ≠ .fro := by cases p <;> intro h <;> cases h
theorem kind_ne_o {p : Pl} (o : Nat) : kindP d p ≠ .o o := by cases p <;> intro h <;> cases h
theorem kind_ne_ext {p : Pl} : kindP d p ≠ .ext := by cases p <;> intro h <;> cases h
theorem Inv.lt (I : Inv d g env uenv S) {l : Nat} (h : g.κ l ≠ .gar) : l < g.S.length := by
  by_cases e : l < g.S.length
  · exact e
  · exact (h (I.gar l (by omega))).elim
/-- frozen -/
theorem Rep.frz {p : Pl} {v : Vl} {l : Nat} (s : Sl g (kindP d p) v (.ref l)) (hk : kd v = .own) (c : Chg g g' l) (n : g.κ l ≠ .fro) (h : g'.κ l = .fro) (hS : g'.S[l]? = g.S[l]?) : Rep g' (frz v) (.ref l) := by
  cases s with
  | rep r => rw [r.flat] at hk; cases hk
  | own a b e => exact .lst h (hS.trans b) (e.mono (c.fro n))
  | ownD a b e => exact .dct h (hS.trans b) (e.mono (c.fro n))
  | lent => cases hk
  | lentD => cases hk
  | scr => cases hk
  | tkn => cases hk
theorem frz_kd {v : Vl} (h : kd v = .own) : kd (frz v) = .flat := by cases v <;> first | (cases h; done) | (rename_i o x; cases o <;> first | (cases h; done) | rfl)
theorem frz_flat {v : Vl} (h : kd v = .flat) : frz v = v := by cases v <;> first | rfl | (rename_i o x; cases o <;> first | (cases h; done) | rfl)
/-- the lent ones behind a place that was put -/
theorem LS.put {l0 : Nat} {p : Pl} {v v0 : Vl} (I : Inv d g env uenv S) (h0 : getP env S p = some v0) (h : Chg g g' l0) (no : ∀ o, g.κ l0 ≠ .o o) (hv : kd v ≠ .bad) : LS g env uenv S g' (putE env p v) uenv (putS S p v) := fun q w hq hk => by
  rw [get_put h0] at hq
  by_cases e : q = p
  · rw [if_pos e] at hq
    cases hq
    exact (hv hk).elim
  · rw [if_neg e] at hq
    exact ⟨hq, h.getU I no (getP_lt hq)⟩
theorem keep_sat {p : Pl} {u : U} (I : Inv d g env uenv S) (hu : getU uenv g p = some u) : Sat d m g env uenv S (Tm2 m) (keepP p env S) (.val u g.S) := by
  unfold keepP
  cases h0 : getP env S p with
  | none => trivial
  | some v =>
    simp only
    obtain ⟨u', hu', s⟩ := I.pl p v h0
    rw [hu] at hu'
    cases hu'
    cases hk : kd v with
    | flat => exact .val I (Tm2.rep (s.of_flat hk))
    | bad => trivial
    | own =>
      obtain ⟨l, rfl, hl, cc, hc⟩ := s.own_at hk
      have ch := g.up_chg l .fro
      have n : g.κ l ≠ .fro := by rw [hl]; exact kind_ne_fro
      have no : ∀ o, g.κ l ≠ .o o := fun o => by rw [hl]; exact kind_ne_o o
      have r : Rep (g.up l .fro) (frz v) (.ref l) := Rep.frz s hk ch n (g.up_at l _) rfl
      refine ⟨g.up l .fro, .ref l, rfl, ⟨I.put h0 hu ch n no (List.getElem?_eq_some_iff.mp hc).1 (I.alone hl) (.rep r), ch.ext n (by rw [hl]; exact not_prot_kind) (by rw [g.up_at]; exact fun h => h), LS.put I h0 ch no (by rw [frz_kd hk]; intro h; cases h)⟩, Tm2.rep r⟩
theorem read_sat {p : Pl} {u : U} (I : Inv d g env uenv S) (hu : getU uenv g p = some u) : Sat d m g env uenv S Br (readP p env S) (.val u g.S) := by
  unfold readP
  cases h0 : getP env S p with
  | none => trivial
  | some v =>
    obtain ⟨u', hu', s⟩ := I.pl p v h0
    rw [hu] at hu'
    cases hu'
    by_cases e : v = .tkn
    · subst e; trivial
    · have : Sat d m g env uenv S Br (.val v env S) (.val u g.S) := .val I (s.br e)
      cases v <;> first | exact this | exact (e rfl).elim
/-- lent, and owned again -/
theorem lend_scope {p : Pl} {v : Vl} {l : Nat} (I : Inv d g env uenv S) (h0 : getP env S p = some v) (hk : kd v = .own) (hu : getU uenv g p = some (.ref l)) (w : Vl) (hw : kd w = .bad) (hs : Sl (g.up l .ext) (kindP d p) w (.ref l)) :
    Inv d (g.up l .ext) (putE env p w) uenv (putS S p w) ∧ ∀ (g2 : Gh) (env2 : VE) (uenv2 : Env) (S2 : OS) (env3 : VE) (S3 : OS), Post d m (g.up l .ext) (putE env p w) uenv (putS S p w) g2 env2 uenv2 S2 → unlend p env2 S2 = .val () env3 S3 → Post d m g env uenv S (g2.up l (kindP d p)) env3 uenv2 S3 ∧ g2.κ l = .ext ∧ getU uenv2 g2 p = some (.ref l) := by
  obtain ⟨u', hu', s⟩ := I.pl p v h0
  rw [hu] at hu'
  cases hu'
  obtain ⟨l', e', hl, cc, hc⟩ := s.own_at hk
  cases e'
  have ch := g.up_chg l .ext
  have n : g.κ l ≠ .fro := by rw [hl]; exact kind_ne_fro
  have no : ∀ o, g.κ l ≠ .o o := fun o => by rw [hl]; exact kind_ne_o o
  have I1 := I.put h0 hu ch n no (List.getElem?_eq_some_iff.mp hc).1 (I.alone hl) hs
  refine ⟨I1, fun g2 env2 uenv2 S2 env3 S3 P hun => ?_⟩
  have hp1 : ∀ q, getP (putE env p w) (putS S p w) q = if q = p then some w else getP env S q := fun q => by
    rw [get_put h0]
  have kx : prot d m ((g.up l .ext).κ l) := by rw [g.up_at]; trivial
  have k2 := P.ext.keep l kx
  rw [g.up_at] at k2
  -- what stands in the place now
  have key : ∀ w2, getP env2 S2 p = some w2 → kd w2 = .bad → w2 = w ∧ getU uenv2 g2 p = some (.ref l) := fun w2 h2 hb => by
    obtain ⟨a, b⟩ := P.ls p w2 h2 hb
    rw [hp1, if_pos rfl] at a
    cases a
    exact ⟨rfl, b.trans ((ch.getU I no (getP_lt h0)).trans hu)⟩
  have ch2 := g2.up_chg l (kindP d p)
  have n2 : g2.κ l ≠ .fro := by rw [k2.1]; intro h; cases h
  have no2 : ∀ o, g2.κ l ≠ .o o := fun o => by rw [k2.1]; intro h; cases h
  have len2 : l < g2.S.length := Nat.lt_of_lt_of_le (List.getElem?_eq_some_iff.mp hc).1 P.ext.len
  have oth : ∀ q w' x, q ≠ p → getP env2 S2 q = some w' → getU uenv2 g2 q = some x → kd w' ≠ .flat → w' ≠ .tkn → x ≠ .ref l := fun q w' x hq h2 hx f t e => by
    obtain ⟨x', hx', s'⟩ := P.inv.pl q w' h2
    rw [hx] at hx'
    cases hx'
    cases hk1 : kd w' with
    | flat => exact f hk1
    | own =>
      obtain ⟨l', e2, e3, _⟩ := s'.own_at hk1
      rw [e] at e2
      cases e2
      rw [k2.1] at e3
      exact kind_ne_ext e3.symm
    | bad =>
      obtain ⟨a, b⟩ := P.ls q w' h2 hk1
      rw [hp1, if_neg hq] at a
      have b2 := b.trans (ch.getU I no (getP_lt a))
      rw [hx, e] at b2
      exact I.alone hl q w' (.ref l) hq a b2.symm f t rfl
  have fin : ∀ w2 w3, getP env2 S2 p = some w2 → kd w2 = .bad → kd w3 = .own → (∀ g3, g3.κ l = kindP d p → g3.S[l]? = g2.S[l]? → Fro g2 g3 → Sl g2 (kindP d p) w2 (.ref l) → Sl g3 (kindP d p) w3 (.ref l)) → Post d m g env uenv S (g2.up l (kindP d p)) (putE env2 p w3) uenv2 (putS S2 p w3) := fun w2 w3 h2 hb h3 hsl => by
    obtain ⟨rfl, hu2⟩ := key w2 h2 hb
    obtain ⟨x, hx, s2⟩ := P.inv.pl p _ h2
    rw [hu2] at hx
    cases hx
    have I3 := P.inv.put h2 hu2 ch2 n2 no2 len2 oth (hsl _ (g2.up_at l _) rfl (ch2.fro n2) s2)
    refine ⟨I3, ⟨?_, fun x hx => ?_, fun x hx => ?_, P.ext.len⟩, fun q w' hq hk' => ?_⟩
    · exact ((ch.fro n).trans P.ext.fro).trans (ch2.fro n2)
    · have hxl : x ≠ l := fun e => by rw [e, hl] at hx; exact not_prot_kind hx
      have a := ch.ne x hxl
      have b := P.ext.keep x (by rw [a.1]; exact hx)
      have c := ch2.ne x hxl
      exact ⟨c.1.trans (b.1.trans a.1), c.2.trans (b.2.trans a.2)⟩
    · have hxl : x ≠ l := fun e => by rw [e, g2.up_at] at hx; exact not_prot_kind hx
      have c := ch2.ne x hxl
      rw [c.1] at hx ⊢
      rw [P.ext.back x hx, (ch.ne x hxl).1]
    · rw [get_put h2] at hq
      by_cases e : q = p
      · rw [if_pos e] at hq
        cases hq
        rw [h3] at hk'; cases hk'
      · rw [if_neg e] at hq
        obtain ⟨a, b⟩ := P.ls q w' hq hk'
        rw [hp1, if_neg e] at a
        exact ⟨a, (ch2.getU P.inv no2 (getP_lt hq)).trans (b.trans (ch.getU I no (getP_lt a)))⟩
  suffices fin2 : Post d m g env uenv S (g2.up l (kindP d p)) env3 uenv2 S3 ∧ getU uenv2 g2 p = some (.ref l) from ⟨fin2.1, k2.1, fin2.2⟩
  unfold unlend at hun
  split at hun
  · rename_i us h2
    cases hun
    refine ⟨?_, (key _ h2 rfl).2⟩
    exact fin _ _ h2 rfl rfl fun g3 h4 h5 h6 h7 => by
      cases h7 with
      | rep r => cases r
      | lent a b c => exact .own h4 (h5.trans b) (c.mono h6)
  · rename_i us h2
    cases hun
    refine ⟨?_, (key _ h2 rfl).2⟩
    exact fin _ _ h2 rfl rfl fun g3 h4 h5 h6 h7 => by
      cases h7 with
      | rep r => cases r
      | lentD a b c => exact .ownD h4 (h5.trans b) (c.mono h6)
  · cases hun
end
end PyM
set_option linter.all false
set_option autoImplicit false
set_option maxRecDepth 100000
set_option maxHeartbeats 1000000
/-! The pure machine keeps what the small machine does: calls. -/
namespace PyM
open PyI
section
variable {d m : Nat} {g g' g'' : Gh} {env env' env'' : VE} {uenv uenv' uenv'' : Env} {S S' S'' : OS} {α β γ δ : Type}
theorem Inv.put0 {p : Pl} {v v0 : Vl} {u : U} (I : Inv d g env uenv S) (h0 : getP env S p = some v0) (hu : getU uenv g p = some u) (hs : Sl g (kindP d p) v u) : Inv d g (putE env p v) uenv (putS S p v) where
  pl := fun q w hq => by
    rw [get_put h0] at hq
    by_cases e : q = p
    · subst e
      rw [if_pos rfl] at hq
      cases hq
      exact ⟨u, hu, hs⟩
    · rw [if_neg e] at hq
      exact I.pl q w hq
  el := by rw [put_len]; exact I.el
  ol := by rw [putS_len]; exact I.ol
  ob := fun o c fs e => by
    obtain ⟨fs', e', nm⟩ := putS_at e
    obtain ⟨l, ufs, h1, h2, h3, h4⟩ := I.ob o c fs' e'
    exact ⟨l, ufs, h1, h2, h3, h4.trans nm⟩
  gar := I.gar
/-- kinds that nobody looks at are named anew -/
structure Relab (d : Nat) (g g' : Gh) : Prop where
  S : g'.S = g.S
  om : g'.om = g.om
  ext : ∀ l, g.κ l = .ext → g'.κ l = .ext
  fro : ∀ l, g.κ l = .fro → g'.κ l = .fro
  kin : ∀ l p, g.κ l = kindP d p → g'.κ l = kindP d p
  obj : ∀ l o, g.κ l = .o o → g'.κ l = .o o
  gar : ∀ l, g.κ l = .gar → g'.κ l = .gar
theorem Relab.frs (h : Relab d g g') : Fro g g' := ⟨fun l e => ⟨h.fro l e, by rw [h.S]⟩, by rw [h.om]; exact List.prefix_refl _⟩
theorem Relab.getU (h : Relab d g g') (p : Pl) : getU uenv g' p = getU uenv g p := by
  cases p with
  | var i => rfl
  | fld o f => simp only [PyM.getU, h.S, h.om]
theorem Inv.relab (I : Inv d g env uenv S) (h : Relab d g g') : Inv d g' env uenv S where
  pl := fun p v e => by
    obtain ⟨u, hu, s⟩ := I.pl p v e
    refine ⟨u, (h.getU p).trans hu, s.mono h.frs fun l _ k => ⟨?_, by rw [h.S]⟩⟩
    rcases k with k | k
    · rw [k]; exact h.kin l p k
    · rw [k]; exact h.ext l k
  el := I.el
  ol := by rw [h.om]; exact I.ol
  ob := fun o c fs e => by
    obtain ⟨l, ufs, h1, h2, h3, h4⟩ := I.ob o c fs e
    exact ⟨l, ufs, by rw [h.om]; exact h1, h.obj l o h2, by rw [h.S]; exact h3, h4⟩
  gar := fun l e => h.gar l (I.gar l (by rw [h.S] at e; exact e))
theorem LS.relab (h : Relab d g g') : LS g env uenv S g' env uenv S := fun p v e _ => ⟨e, h.getU p⟩

/-! ### names and chains of names -/
variable {P : Pg} {ucf : Nat → List U → Store → R U}
theorem var_ev (I : Inv d g env uenv S) (i : Nat) (v : Vl) (h : env[i]?.join = some v) : ∃ u, (match uenv[i]? with
    | some (some u) => R.val u g.S
    | _ => .stuck) = .val u g.S ∧ ∃ k, Sl g k v u := by
  obtain ⟨u, hu, s⟩ := I.pl (.var i) v h
  have hu' : uenv[i]?.join = some u := hu
  rw [join_some] at hu'
  exact ⟨u, by rw [hu'], _, s⟩
theorem valE_ev (I : Inv d g env uenv S) : ∀ (a : E) (v : Vl), valE env S a = some v → ∃ u, ev P ucf a uenv g.S = .val u g.S ∧ ∃ k, Sl g k v u
  | .var i, v, h => by unfold ev; exact var_ev I i v h
  | .mov i, v, h => by unfold ev; exact var_ev I i v h
  | .fld a f, v, h => by
    unfold valE at h
    split at h
    · rename_i n ha
      obtain ⟨x, hx, k, s⟩ := valE_ev I a _ ha
      obtain ⟨l, rfl, ho⟩ := (s.br (by intro h; cases h)).obj'
      obtain ⟨u, hu, s2⟩ := I.pl (.fld n f) v h
      refine ⟨u, ?_, _, s2⟩
      unfold ev
      rw [hx]
      simp only [getU, ho] at hu
      simp only [R.bind]
      split at hu
      · rename_i c ufs e
        try rw [e]
        simp only [hu]
        rfl
      · cases hu
    · cases h
  | .int _, v, h => by cases h
  | .str _, v, h => by cases h
  | .bl _, v, h => by cases h
  | .non, v, h => by cases h
  | .esc _ _ _ _ _ _, v, h => by cases h
  | .glo _, v, h => by cases h
  | .fnv _, v, h => by cases h
  | .bin _ _ _, v, h => by cases h
  | .neg _, v, h => by cases h
  | .cmp _ _ _, v, h => by cases h
  | .cmp2 _ _ _ _ _, v, h => by cases h
  | .and _ _, v, h => by cases h
  | .or _ _, v, h => by cases h
  | .not _, v, h => by cases h
  | .ife _ _ _, v, h => by cases h
  | .tup _, v, h => by cases h
  | .lst _, v, h => by cases h
  | .ix _ _, v, h => by cases h
  | .cut _ _ _, v, h => by cases h
  | .call _ _, v, h => by cases h
  | .callv _ _, v, h => by cases h
  | .meth _ _ _, v, h => by cases h
  | .mk _ _, v, h => by cases h
  | .bi _ _, v, h => by cases h
  | .bm _ _ _, v, h => by cases h
  | .comp _ _ _ _ _, v, h => by cases h
  | .comp2 _ _ _ _ _ _ _ _ _, v, h => by cases h
  | .dict0, v, h => by cases h
theorem plc_ev (I : Inv d g env uenv S) {a : E} {p : Pl} {u : U} (h : plc env S a = some p) (hu : getU uenv g p = some u) : ev P ucf a uenv g.S = .val u g.S := by
  have var : ∀ (i : Nat), p = .var i → (match uenv[i]? with
    | some (some u) => R.val u g.S
    | _ => .stuck) = .val u g.S := fun i e => by
    subst e
    have hu' : uenv[i]?.join = some u := hu
    rw [join_some] at hu'
    rw [hu']
  unfold plc at h
  split at h
  · cases h; unfold ev; exact var _ rfl
  · cases h; unfold ev; exact var _ rfl
  · rename_i a f
    split at h
    · rename_i n ha
      cases h
      obtain ⟨x, hx, k, s⟩ := valE_ev (P := P) (ucf := ucf) I _ _ ha
      obtain ⟨l, rfl, ho⟩ := (s.br (by intro h; cases h)).obj'
      unfold ev
      rw [hx]
      simp only [getU, ho] at hu
      simp only [R.bind]
      split at hu
      · rename_i c ufs e
        try rw [e]
        simp only [hu]
        rfl
      · cases hu
    · cases h
  · cases h

/-! ### a list handed over, and given back -/
theorem take_scope {p : Pl} {v : Vl} {l k : Nat} (I : Inv d g env uenv S) (h0 : getP env S p = some v) (hk : kd v = .own) (hu : getU uenv g p = some (.ref l)) (hm : m ≤ k) :
    Inv d (g.up l (.t k)) (putE env p .tkn) uenv (putS S p .tkn) ∧ Sl (g.up l (.t k)) (.t k) v (.ref l) ∧ ∀ (g2 : Gh) (env2 : VE) (uenv2 : Env) (S2 : OS) (env3 : VE) (S3 : OS) (d' j : Nat) (v' : Vl), d < d' → Post d m (g.up l (.t k)) (putE env p .tkn) uenv (putS S p .tkn) g2 env2 uenv2 S2 → Sl g2 (.e d' j) v' (.ref l) → giveP p v' env2 S2 = .val () env3 S3 →
      ∃ g3, g3.S = g2.S ∧ g3.om = g2.om ∧ (∀ x, g2.κ x ≠ .e d' j → g3.κ x = g2.κ x) ∧ Post d m g env uenv S g3 env3 uenv2 S3 := by
  obtain ⟨u', hu', s⟩ := I.pl p v h0
  rw [hu] at hu'
  cases hu'
  obtain ⟨l', e', hl, cc, hc⟩ := s.own_at hk
  cases e'
  have ch := g.up_chg l (.t k)
  have n : g.κ l ≠ .fro := by rw [hl]; exact kind_ne_fro
  have no : ∀ o, g.κ l ≠ .o o := fun o => by rw [hl]; exact kind_ne_o o
  have I1 := I.put h0 hu ch n no (List.getElem?_eq_some_iff.mp hc).1 (I.alone hl) (.tkn (u := .ref l))
  refine ⟨I1, ?_, fun g2 env2 uenv2 S2 env3 S3 d' j v' hd P hs hgv => ?_⟩
  · cases s with
    | rep r => rw [r.flat] at hk; cases hk
    | own a b c => exact .own (g.up_at l _) b (c.mono (ch.fro n))
    | ownD a b c => exact .ownD (g.up_at l _) b (c.mono (ch.fro n))
    | lent => cases hk
    | lentD => cases hk
    | scr => cases hk
    | tkn => cases hk
  have hp1 : ∀ q, getP (putE env p .tkn) (putS S p .tkn) q = if q = p then some .tkn else getP env S q := fun q => by
    rw [get_put h0]
  unfold giveP at hgv
  split at hgv
  · rename_i h2
    obtain ⟨_, b⟩ := P.ls p .tkn h2 rfl
    have hu2 : getU uenv2 g2 p = some (.ref l) := b.trans ((ch.getU I no (getP_lt h0)).trans hu)
    have nl : ¬ prot d m (g2.κ l) := fun hp => by
      have := P.ext.back l hp
      rw [this, g.up_at] at hp
      exact absurd hp (by show ¬ k < m; omega)
    have ls : ∀ g3 w, (∀ q, (∀ o f, q = Pl.fld o f → o < S2.length) → getU uenv2 g3 q = getU uenv2 g2 q) → kd w ≠ .bad → LS g env uenv S g3 (putE env2 p w) uenv2 (putS S2 p w) := fun g3 w hg hw q w' hq hk' => by
      rw [get_put h2] at hq
      by_cases e : q = p
      · rw [if_pos e] at hq
        cases hq
        exact (hw hk').elim
      · rw [if_neg e] at hq
        obtain ⟨a, b⟩ := P.ls q w' hq hk'
        rw [hp1, if_neg e] at a
        exact ⟨a, (hg q (getP_lt hq)).trans (b.trans (ch.getU I no (getP_lt a)))⟩
    have hw : kd v' ≠ .bad := by
      intro e
      rw [e] at hgv
      cases hgv
    have hgv' : env3 = putE env2 p v' ∧ S3 = putS S2 p v' := by
      cases e : kd v' with
      | bad => exact (hw e).elim
      | own => rw [e] at hgv; cases hgv; exact ⟨rfl, rfl⟩
      | flat => rw [e] at hgv; cases hgv; exact ⟨rfl, rfl⟩
    obtain ⟨rfl, rfl⟩ := hgv'
    cases hkd : kd v' with
    | bad => exact (hw hkd).elim
    | flat =>
      have r := hs.of_flat hkd
      refine ⟨g2, rfl, rfl, fun _ _ => rfl, P.inv.put0 h2 hu2 (.rep r), ⟨(ch.fro n).trans P.ext.fro, fun x hx => ?_, fun x hx => ?_, P.ext.len⟩, ls g2 v' (fun _ _ => rfl) hw⟩
      · have hxl : x ≠ l := fun e => by rw [e, hl] at hx; exact not_prot_kind hx
        have a := ch.ne x hxl
        have b := P.ext.keep x (by rw [a.1]; exact hx)
        exact ⟨b.1.trans a.1, b.2.trans a.2⟩
      · have hxl : x ≠ l := fun e => nl (e ▸ hx)
        rw [P.ext.back x hx, (ch.ne x hxl).1]
    | own =>
      obtain ⟨l', e', hl2, _⟩ := hs.own_at hkd
      cases e'
      have ch2 := g2.up_chg l (kindP d p)
      have n2 : g2.κ l ≠ .fro := by rw [hl2]; intro h; cases h
      have no2 : ∀ o, g2.κ l ≠ .o o := fun o => by rw [hl2]; intro h; cases h
      have len2 : l < g2.S.length := Nat.lt_of_lt_of_le (List.getElem?_eq_some_iff.mp hc).1 P.ext.len
      have s3 : Sl (g2.up l (kindP d p)) (kindP d p) v' (.ref l) := by
        cases hs with
        | rep r => rw [r.flat] at hkd; cases hkd
        | own a b c => exact .own (g2.up_at l _) b (c.mono (ch2.fro n2))
        | ownD a b c => exact .ownD (g2.up_at l _) b (c.mono (ch2.fro n2))
        | lent => cases hkd
        | lentD => cases hkd
        | scr => cases hkd
        | tkn => cases hkd
      have idle := P.inv.idle (l0 := l) (fun q => by
        rw [hl2]
        cases q with
        | var i => intro h; injection h with h1 h2; omega
        | fld o f => intro h; cases h) (by rw [hl2]; intro h; cases h)
      refine ⟨g2.up l (kindP d p), rfl, rfl, fun x hx => g2.up_ne _ (fun e => hx (e ▸ hl2)), P.inv.put h2 hu2 ch2 n2 no2 len2 (fun q w x _ => idle q w x) s3, ⟨((ch.fro n).trans P.ext.fro).trans (ch2.fro n2), fun x hx => ?_, fun x hx => ?_, P.ext.len⟩, ls _ v' (fun q hq => ch2.getU P.inv no2 hq) hw⟩
      · have hxl : x ≠ l := fun e => by rw [e, hl] at hx; exact not_prot_kind hx
        have a := ch.ne x hxl
        have b := P.ext.keep x (by rw [a.1]; exact hx)
        have c := ch2.ne x hxl
        exact ⟨c.1.trans (b.1.trans a.1), c.2.trans (b.2.trans a.2)⟩
      · have hxl : x ≠ l := fun e => by rw [e, g2.up_at] at hx; exact not_prot_kind hx
        have c := ch2.ne x hxl
        rw [c.1] at hx ⊢
        rw [P.ext.back x hx, (ch.ne x hxl).1]
  · cases hgv

/-! ### arguments -/
structure ArgR (m : Nat) (g : Gh) (args : List Vl) (uargs : List U) : Prop where
  len : args.length = uargs.length
  at_ : ∀ (j : Nat) (v : Vl) (u : U), args[j]? = some v → uargs[j]? = some u → Sl g (.t (m + j)) v u ∧ v ≠ .tkn
theorem ArgR.snoc {args : List Vl} {uargs : List U} {v : Vl} {u : U} (h : ArgR m g args uargs) (e : Fro g g') (k : ∀ j l, j < args.length → (g.κ l = .t (m + j) ∨ g.κ l = .ext) → g'.κ l = g.κ l ∧ g'.S[l]? = g.S[l]?) (t : Sl g' (.t (m + args.length)) v u) (n : v ≠ .tkn) : ArgR m g' (args ++ [v]) (uargs ++ [u]) := by
  refine ⟨by simp [h.len], fun j w x h1 h2 => ?_⟩
  by_cases hj : j < args.length
  · rw [List.getElem?_append_left hj] at h1
    rw [List.getElem?_append_left (by rw [← h.len]; exact hj)] at h2
    obtain ⟨s, n'⟩ := h.at_ j w x h1 h2
    exact ⟨s.mono e fun l _ kk => k j l hj kk, n'⟩
  · rw [List.getElem?_append_right (by omega)] at h1
    rw [List.getElem?_append_right (by rw [← h.len]; omega)] at h2
    have hj2 : j = args.length := by
      have := (List.getElem?_eq_some_iff.mp h1).1
      simp at this
      omega
    subst hj2
    rw [Nat.sub_self] at h1
    rw [h.len, Nat.sub_self] at h2
    cases h1
    cases h2
    exact ⟨t, n⟩
/-- the changed arguments behind a call -/
def AB (d : Nat) (g : Gh) (md : List Md) (args : VE) (uargs : List U) (n : Nat) : Prop := ∀ (j : Nat) (v : Vl), j < n → md[j]? = some .mt → args[j]?.join = some v → kd v ≠ .bad → ∃ u, uargs[j]? = some u ∧ Sl g (.e (d + 1) j) v u
def SatC (d m : Nat) (g : Gh) (env : VE) (uenv : Env) (S : OS) (md : List Md) (uargs : List U) (r : RV) (x : R U) : Prop := match r with
  | .val a args env' S' => ∃ g' b us, x = .val b g'.S ∧ Post d m g env uenv S g' env' uenv S' ∧ Tm2 m g' a b ∧ uargs <+: us ∧ AB d g' md args us uargs.length
  | .exc c args env' S' => ∃ g' us, x = .exc c none g'.S ∧ Post d m g env uenv S g' env' uenv S' ∧ uargs <+: us ∧ AB d g' md args us uargs.length
  | .stuck => True
theorem AB.less {md : List Md} {args : VE} {us : List U} {n n' : Nat} (h : AB d g md args us n') (e : n ≤ n') : AB d g md args us n := fun j v h0 => h j v (by omega)
theorem SatC.post {md : List Md} {uargs : List U} {r : RV} {x : R U} (p : Post d m g env uenv S g' env' uenv S') (h : SatC d m g' env' uenv S' md uargs r x) : SatC d m g env uenv S md uargs r x := by
  cases r with
  | val a args env' S' => obtain ⟨g', b, us, e, p', q⟩ := h; exact ⟨g', b, us, e, p.trans p', q⟩
  | exc c args env' S' => obtain ⟨g', us, e, p', q⟩ := h; exact ⟨g', us, e, p.trans p', q⟩
  | stuck => trivial
theorem SatC.pre {md : List Md} {uargs : List U} {u : U} {r : RV} {x : R U} (h : SatC d m g env uenv S md (uargs ++ [u]) r x) : SatC d m g env uenv S md uargs r x := by
  cases r with
  | val a args env' S' => obtain ⟨g', b, us, e, p', q, r, s⟩ := h; exact ⟨g', b, us, e, p', q, (List.prefix_append _ _).trans r, s.less (by simp)⟩
  | exc c args env' S' => obtain ⟨g', us, e, p', r, s⟩ := h; exact ⟨g', us, e, p', (List.prefix_append _ _).trans r, s.less (by simp)⟩
  | stuck => trivial
theorem SatC.dn {md : List Md} {uargs : List U} {r : RV} {x : R U} (h : SatC d m g env uenv S md uargs r x) : Sat d m g env uenv S (Tm2 m) r.dn x := by
  cases r with
  | val a args env' S' => obtain ⟨g', b, us, e, p', q, r, s⟩ := h; exact ⟨g', b, e, p', q⟩
  | exc c args env' S' => obtain ⟨g', us, e, p', r, s⟩ := h; exact ⟨g', e, p'⟩
  | stuck => trivial
theorem SatC.arg {rel : Gh → α → β → Prop} {md : List Md} {uargs : List U} {r : RP α} {x : R β} {f : α → VE → OS → RV} {h : β → Store → R U} (s : Sat d m g env uenv S rel r x)
    (k : ∀ g' env' S' a b, r = .val a env' S' → Post d m g env uenv S g' env' uenv S' → rel g' a b → SatC d m g' env' uenv S' md uargs (f a env' S') (h b g'.S)) : SatC d m g env uenv S md uargs (r.arg f) (x.bind h) := by
  cases r with
  | val a env' S' => obtain ⟨g', b, rfl, p, q⟩ := s; exact .post p (k g' env' S' a b rfl p q)
  | exc c env' S' => obtain ⟨g', rfl, p⟩ := s; exact ⟨g', uargs, rfl, p, List.prefix_refl _, fun j v _ _ h _ => by simp at h⟩
  | stuck => trivial
/-- the callee, seen from where it is called -/
def LeafOk (d m : Nat) (Q : Gh → Prop) (md : List Md) (lf : List Vl → OS → RC) (ulf : List U → Store → R U) : Prop := ∀ (g : Gh) (env : VE) (uenv : Env) (S : OS) (args : List Vl) (uargs : List U), Inv d g env uenv S → Q g → ArgR m g args uargs → SatC d m g env uenv S md uargs ((lf args S).up env) (ulf uargs g.S)
/-- a result outlives a kind that changes -/
theorem Tm2.relab {v : Vl} {u : U} (h : Tm2 m g v u) (hS : g'.S = g.S) (hom : g'.om = g.om) (k : ∀ l, g.κ l = .t m ∨ g.κ l = .fro → g'.κ l = g.κ l) : Tm2 m g' v u := by
  refine ⟨?_, h.2⟩
  have f : Fro g g' := ⟨fun l e => ⟨(k l (.inr e)).trans e, by rw [hS]⟩, by rw [hom]; exact List.prefix_refl _⟩
  cases hk : kd v with
  | bad => exact (h.2 hk).elim
  | flat => exact .rep ((h.1.of_flat hk).mono f)
  | own =>
    obtain ⟨l, rfl, hl, _⟩ := h.1.own_at hk
    exact h.1.mono f fun l' e' _ => by
      cases e'
      exact ⟨k l (.inl hl), by rw [hS]⟩
theorem AB.relab {md : List Md} {args : VE} {us : List U} {n : Nat} (h : AB d g md args us n) (hS : g'.S = g.S) (hom : g'.om = g.om) (k : ∀ l, (∃ j, j < n ∧ g.κ l = .e (d + 1) j) ∨ g.κ l = .fro → g'.κ l = g.κ l) : AB d g' md args us n := fun j v h0 h1 h2 h3 => by
  obtain ⟨u, hu, s⟩ := h j v h0 h1 h2 h3
  have f : Fro g g' := ⟨fun l e => ⟨(k l (.inr e)).trans e, by rw [hS]⟩, by rw [hom]; exact List.prefix_refl _⟩
  refine ⟨u, hu, ?_⟩
  cases hk : kd v with
  | bad => exact (h3 hk).elim
  | flat => exact .rep ((s.of_flat hk).mono f)
  | own =>
    obtain ⟨l, rfl, hl, _⟩ := s.own_at hk
    exact s.mono f fun l' e' _ => by
      cases e'
      exact ⟨k l (.inl ⟨j, h0, hl⟩), by rw [hS]⟩
theorem unlend_cases (p : Pl) (env : VE) (S : OS) : unlend p env S = .stuck ∨ ∃ env' S', unlend p env S = .val () env' S' := by
  unfold unlend
  split
  · exact .inr ⟨_, _, rfl⟩
  · exact .inr ⟨_, _, rfl⟩
  · exact .inl rfl
theorem giveP_cases (p : Pl) (v : Vl) (env : VE) (S : OS) : giveP p v env S = .stuck ∨ ∃ env' S', giveP p v env S = .val () env' S' := by
  unfold giveP
  split
  · split
    · exact .inl rfl
    · exact .inr ⟨_, _, rfl⟩
  · exact .inl rfl
/-- the end of a lending -/
theorem SatC.un {p : Pl} {v w : Vl} {l : Nat} {md : List Md} {uargs : List U} {r : RV} {x : R U} (I : Inv d g env uenv S) (h0 : getP env S p = some v) (hk : kd v = .own) (hu : getU uenv g p = some (.ref l)) (hw : kd w = .bad) (hs : Sl (g.up l .ext) (kindP d p) w (.ref l))
    (h : SatC d m (g.up l .ext) (putE env p w) uenv (putS S p w) md uargs r x) : SatC d m g env uenv S md uargs (r.un p) x := by
  cases r with
  | stuck => trivial
  | val a args env2 S2 =>
    obtain ⟨g2, b, us, e, P, t, pr, ab⟩ := h
    show SatC d m g env uenv S md uargs ((unlend p env2 S2).arg fun _ env S => .val a args env S) x
    rcases unlend_cases p env2 S2 with hc | ⟨env3, S3, hc⟩
    · rw [hc]; trivial
    · rw [hc]
      obtain ⟨P3, k2, _⟩ := (lend_scope I h0 hk hu w hw hs).2 g2 env2 uenv S2 env3 S3 P hc
      refine ⟨g2.up l (kindP d p), b, us, e, P3, t.relab rfl rfl fun x hx => g2.up_ne _ fun e2 => ?_, pr, ab.relab rfl rfl fun x hx => g2.up_ne _ fun e2 => ?_⟩
      · rw [e2, k2] at hx
        rcases hx with hx | hx <;> cases hx
      · rw [e2, k2] at hx
        rcases hx with ⟨j, _, hx⟩ | hx <;> cases hx
  | exc c args env2 S2 =>
    obtain ⟨g2, us, e, P, pr, ab⟩ := h
    show SatC d m g env uenv S md uargs ((unlend p env2 S2).arg fun _ env S => .exc c args env S) x
    rcases unlend_cases p env2 S2 with hc | ⟨env3, S3, hc⟩
    · rw [hc]; trivial
    · rw [hc]
      obtain ⟨P3, k2, _⟩ := (lend_scope I h0 hk hu w hw hs).2 g2 env2 uenv S2 env3 S3 P hc
      refine ⟨g2.up l (kindP d p), us, e, P3, pr, ab.relab rfl rfl fun x hx => g2.up_ne _ fun e2 => ?_⟩
      · rw [e2, k2] at hx
        rcases hx with ⟨j, _, hx⟩ | hx <;> cases hx
theorem SatC.gv {p : Pl} {v : Vl} {l j : Nat} {md : List Md} {uargs : List U} {r : RV} {x : R U} (I : Inv d g env uenv S) (h0 : getP env S p = some v) (hk : kd v = .own) (hu : getU uenv g p = some (.ref l)) (hj : uargs.length = j) (hmd : md[j]? = some .mt)
    (h : SatC d m (g.up l (.t (m + j))) (putE env p .tkn) uenv (putS S p .tkn) md (uargs ++ [.ref l]) r x) : SatC d m g env uenv S md uargs (r.gv p j) x := by
  have key : ∀ {us : List U}, uargs ++ [.ref l] <+: us → us[j]? = some (.ref l) := fun {us} pr => pre_get pr (by subst hj; simp)
  cases r with
  | stuck => trivial
  | val a args env2 S2 =>
    obtain ⟨g2, b, us, e, P, t, pr, ab⟩ := h
    show SatC d m g env uenv S md uargs (match args[j]?.join with
      | some v => (giveP p v env2 S2).arg fun _ env S => .val a args env S
      | none => .stuck) x
    cases ha : args[j]?.join with
    | none => trivial
    | some v' =>
      show SatC d m g env uenv S md uargs ((giveP p v' env2 S2).arg fun _ env S => .val a args env S) x
      by_cases hb : kd v' = .bad
      · have : giveP p v' env2 S2 = .stuck := by
          unfold giveP
          split
          · rw [hb]
          · rfl
        rw [this]; trivial
      · obtain ⟨u', hu', s'⟩ := ab j v' (by simp; omega) hmd ha hb
        rw [key pr] at hu'
        cases hu'
        rcases giveP_cases p v' env2 S2 with hc | ⟨env3, S3, hc⟩
        · rw [hc]; trivial
        · rw [hc]
          obtain ⟨g3, a1, a2, a3, P3⟩ := (take_scope (m := m) I h0 hk hu (by omega)).2.2 g2 env2 uenv S2 env3 S3 (d + 1) j v' (by omega) P s' hc
          refine ⟨g3, b, us, e.trans (by rw [a1]), P3, t.relab a1 a2 fun x hx => a3 x fun e2 => ?_, (List.prefix_append _ _).trans pr, (ab.less (by simp)).relab a1 a2 fun x hx => a3 x fun e2 => ?_⟩
          · rw [e2] at hx
            rcases hx with hx | hx <;> cases hx
          · rw [e2] at hx
            rcases hx with ⟨j', hj', hx⟩ | hx
            · injection hx with _ hx
              omega
            · cases hx
  | exc c args env2 S2 =>
    obtain ⟨g2, us, e, P, pr, ab⟩ := h
    show SatC d m g env uenv S md uargs (match args[j]?.join with
      | some v => (giveP p v env2 S2).arg fun _ env S => .exc c args env S
      | none => .stuck) x
    cases ha : args[j]?.join with
    | none => trivial
    | some v' =>
      show SatC d m g env uenv S md uargs ((giveP p v' env2 S2).arg fun _ env S => .exc c args env S) x
      by_cases hb : kd v' = .bad
      · have : giveP p v' env2 S2 = .stuck := by
          unfold giveP
          split
          · rw [hb]
          · rfl
        rw [this]; trivial
      · obtain ⟨u', hu', s'⟩ := ab j v' (by simp; omega) hmd ha hb
        rw [key pr] at hu'
        cases hu'
        rcases giveP_cases p v' env2 S2 with hc | ⟨env3, S3, hc⟩
        · rw [hc]; trivial
        · rw [hc]
          obtain ⟨g3, a1, a2, a3, P3⟩ := (take_scope (m := m) I h0 hk hu (by omega)).2.2 g2 env2 uenv S2 env3 S3 (d + 1) j v' (by omega) P s' hc
          refine ⟨g3, us, e.trans (by rw [a1]), P3, (List.prefix_append _ _).trans pr, (ab.less (by simp)).relab a1 a2 fun x hx => a3 x fun e2 => ?_⟩
          · rw [e2] at hx
            rcases hx with ⟨j', hj', hx⟩ | hx
            · injection hx with _ hx
              omega
            · cases hx
end
end PyM
set_option linter.all false
set_option autoImplicit false
set_option maxRecDepth 100000
set_option maxHeartbeats 1000000
/-! The pure machine keeps what the small machine does: arguments, operands. -/
namespace PyM
open PyI
section
variable {d m : Nat} {g g' g'' : Gh} {env env' env'' : VE} {uenv uenv' uenv'' : Env} {S S' S'' : OS} {α β γ δ : Type}
variable {P : Pg} {pcf : Nat → List Vl → OS → RC} {ucf : Nat → List U → Store → R U}
theorem R.assoc (r : R α) (f : α → Store → R β) (h : β → Store → R γ) : (r.bind f).bind h = r.bind fun a S => (f a S).bind h := by
  cases r <;> rfl
theorem lend_cases (I : Inv d g env uenv S) (p : Pl) : lend p env S = .stuck ∨ (∃ v u, getP env S p = some v ∧ getU uenv g p = some u ∧ v ≠ .tkn ∧ kd v ≠ .own ∧ lend p env S = .val (v, none) env S ∧ Sl g (kindP d p) v u) ∨
    (∃ v w l, getP env S p = some v ∧ kd v = .own ∧ getU uenv g p = some (.ref l) ∧ g.κ l = kindP d p ∧ kd w = .bad ∧ w ≠ .tkn ∧ lend p env S = .val (w, some p) (putE env p w) (putS S p w) ∧ (∀ k, Sl (g.up l .ext) k w (.ref l)) ∧ Br g v (.ref l) ∧ itemsP v = itemsP w) := by
  unfold lend
  cases h0 : getP env S p with
  | none => exact .inl rfl
  | some v =>
    obtain ⟨u, hu, s⟩ := I.pl p v h0
    have flat : kd v = .flat → kd v ≠ .own := fun h => by rw [h]; intro h; cases h
    cases v with
    | tkn => exact .inl rfl
    | lst o vs =>
      cases o with
      | own =>
        refine .inr (.inr ⟨.lst .own vs, .lst .lent vs, ?_⟩)
        cases s with
        | rep r => cases r
        | own a b c => exact ⟨_, rfl, rfl, hu, a, rfl, (fun h => by cases h), rfl, fun k => .lent (g.up_at _ _) b (c.mono ((g.up_chg _ _).fro (by rw [a]; exact kind_ne_fro))), .lst b c, rfl⟩
      | no => exact .inr (.inl ⟨_, u, rfl, hu, (fun h => by cases h), (fun h => by cases h), rfl, s⟩)
      | lent => exact .inr (.inl ⟨_, u, rfl, hu, (fun h => by cases h), (fun h => by cases h), rfl, s⟩)
    | dct o vs =>
      cases o with
      | own =>
        refine .inr (.inr ⟨.dct .own vs, .dct .lent vs, ?_⟩)
        cases s with
        | rep r => cases r
        | ownD a b c => exact ⟨_, rfl, rfl, hu, a, rfl, (fun h => by cases h), rfl, fun k => .lentD (g.up_at _ _) b (c.mono ((g.up_chg _ _).fro (by rw [a]; exact kind_ne_fro))), .dct b c, rfl⟩
      | no => exact .inr (.inl ⟨_, u, rfl, hu, (fun h => by cases h), (fun h => by cases h), rfl, s⟩)
      | lent => exact .inr (.inl ⟨_, u, rfl, hu, (fun h => by cases h), (fun h => by cases h), rfl, s⟩)
    | non => exact .inr (.inl ⟨_, u, rfl, hu, (fun h => by cases h), (fun h => by cases h), rfl, s⟩)
    | bl b => exact .inr (.inl ⟨_, u, rfl, hu, (fun h => by cases h), (fun h => by cases h), rfl, s⟩)
    | int i => exact .inr (.inl ⟨_, u, rfl, hu, (fun h => by cases h), (fun h => by cases h), rfl, s⟩)
    | str i => exact .inr (.inl ⟨_, u, rfl, hu, (fun h => by cases h), (fun h => by cases h), rfl, s⟩)
    | tup i => exact .inr (.inl ⟨_, u, rfl, hu, (fun h => by cases h), (fun h => by cases h), rfl, s⟩)
    | obj i => exact .inr (.inl ⟨_, u, rfl, hu, (fun h => by cases h), (fun h => by cases h), rfl, s⟩)
    | fn i => exact .inr (.inl ⟨_, u, rfl, hu, (fun h => by cases h), (fun h => by cases h), rfl, s⟩)
    | scr i => exact .inr (.inl ⟨_, u, rfl, hu, (fun h => by cases h), (fun h => by cases h), rfl, s⟩)
/-- an expression, read and kept -/
def OkX (P : Pg) (pcf : Nat → List Vl → OS → RC) (ucf : Nat → List U → Store → R U) (e : E) : Prop := ∀ (d m : Nat) (g : Gh) (env : VE) (uenv : Env) (S : OS), Inv d g env uenv S →
  Sat d m g env uenv S Br (evP P pcf false e env S) (ev P ucf e uenv g.S) ∧ Sat d m g env uenv S (Tm2 m) (evP P pcf true e env S) (ev P ucf e uenv g.S)
def AllE (Q : E → Prop) : Es → Prop
  | .nil => True
  | .cons e r => Q e ∧ AllE Q r
theorem ArgR.ext {args : List Vl} {uargs : List U} {v : Vl} {u : U} {m' : Nat} (h : ArgR m g args uargs) (x : Ext d m' g g') (hm : m + args.length ≤ m') (t : Sl g' (.t (m + args.length)) v u) (n : v ≠ .tkn) : ArgR m g' (args ++ [v]) (uargs ++ [u]) :=
  h.snoc x.fro (fun j l hj k => x.keep l (by
    rcases k with k | k <;> rw [k]
    · show m + j < m'; omega
    · trivial)) t n
theorem ArgR.chg {args : List Vl} {uargs : List U} {v : Vl} {u : U} {l0 : Nat} {p : Pl} (h : ArgR m g args uargs) (c : Chg g g' l0) (hl : g.κ l0 = kindP d p) (t : Sl g' (.t (m + args.length)) v u) (n : v ≠ .tkn) : ArgR m g' (args ++ [v]) (uargs ++ [u]) :=
  h.snoc (c.fro (by rw [hl]; exact kind_ne_fro)) (fun j l hj k => c.ne l fun e => by
    rw [e, hl] at k
    rcases k with k | k
    · cases p <;> cases k
    · exact kind_ne_ext k) t n
theorem evc_ok {md : List Md} {lf : List Vl → OS → RC} {ulf : List U → Store → R U} {Q : Gh → Prop} (hQ : ∀ g g', Fro g g' → Q g → Q g') (hl : LeafOk d m Q md lf ulf) : ∀ (es : Es), AllE (OkX P pcf ucf) es → ∀ (args : List Vl) (uargs : List U) (g : Gh) (env : VE) (uenv : Env) (S : OS), Inv d g env uenv S → Q g → ArgR m g args uargs →
    SatC d m g env uenv S md uargs (evcP P pcf lf (md.drop args.length) es args env S) ((evs P ucf es uenv g.S).bind fun us St => ulf (uargs ++ us) St)
  | .nil, _, args, uargs, g, env, uenv, S, I, q, A => by
    unfold evcP evs
    show SatC _ _ _ _ _ _ _ _ _ (ulf (uargs ++ []) g.S)
    rw [List.append_nil]
    exact hl g env uenv S args uargs I q A
  | .cons e r, h, args, uargs, g, env, uenv, S, I, q, A => by
    have hst : (evs P ucf (.cons e r) uenv g.S).bind (fun us St => ulf (uargs ++ us) St) = (ev P ucf e uenv g.S).bind fun u St => (evs P ucf r uenv St).bind fun us St => ulf ((uargs ++ [u]) ++ us) St := by
      rw [evs, R.assoc]
      congr 1
      funext u St
      rw [R.assoc]
      congr 1
      funext us St
      show ulf (uargs ++ u :: us) St = _
      rw [List.append_assoc]
      rfl
    rw [hst]
    have tl : (md.drop args.length).tail = md.drop (args.length + 1) := by rw [List.tail_drop]
    have rest : ∀ (g1 : Gh) (env1 : VE) (S1 : OS) (v : Vl) (u : U), Inv d g1 env1 uenv S1 → Fro g g1 → ArgR m g1 (args ++ [v]) (uargs ++ [u]) → SatC d m g1 env1 uenv S1 md (uargs ++ [u]) (evcP P pcf lf (md.drop args.length).tail r (args ++ [v]) env1 S1) ((evs P ucf r uenv g1.S).bind fun us St => ulf ((uargs ++ [u]) ++ us) St) := fun g1 env1 S1 v u I1 F1 A1 => by
      have := evc_ok hQ hl r h.2 (args ++ [v]) (uargs ++ [u]) g1 env1 uenv S1 I1 (hQ _ _ F1 q) A1
      rw [List.length_append] at this
      rw [tl]
      exact this
    have plain : SatC d m g env uenv S md uargs ((evP P pcf true e env S).arg fun u env S => evcP P pcf lf (md.drop args.length).tail r (args ++ [u]) env S) ((ev P ucf e uenv g.S).bind fun u St => (evs P ucf r uenv St).bind fun us St => ulf ((uargs ++ [u]) ++ us) St) := by
      have s := (h.1 d (m + args.length) g env uenv S I).2
      cases hr : evP P pcf true e env S with
      | val v env1 S1 =>
        rw [hr] at s
        obtain ⟨g1, u, ee, P1, t⟩ := s
        rw [ee]
        exact .post (P1.le (by omega)) (SatC.pre (rest g1 env1 S1 v u P1.inv P1.ext.fro (A.ext P1.ext (Nat.le_refl _) t.1 t.ne)))
      | exc c env1 S1 =>
        rw [hr] at s
        obtain ⟨g1, ee, P1⟩ := s
        rw [ee]
        exact ⟨g1, uargs, rfl, P1.le (by omega), List.prefix_refl _, fun j v _ _ h _ => by simp at h⟩
      | stuck => trivial
    unfold evcP
    cases hmd : (md.drop args.length).headD .kp with
    | kp => exact plain
    | ln =>
      simp only
      cases hp : plc env S e with
      | none =>
        have e1 : lendA (lnd none env S (evP P pcf true e env S)) (fun u env S => evcP P pcf lf (md.drop args.length).tail r (args ++ [u]) env S) = (evP P pcf true e env S).arg fun u env S => evcP P pcf lf (md.drop args.length).tail r (args ++ [u]) env S := by
          unfold lnd lendA
          cases evP P pcf true e env S <;> rfl
        rw [e1]
        exact plain
      | some p =>
        show SatC d m g env uenv S md uargs (lendA (lend p env S) _) _
        rcases lend_cases I p with h1 | ⟨v, u, h0, hu, n, ho, h1, s⟩ | ⟨v, w, l, h0, hk, hu, hl', hw, nw, h1, s, _⟩
        · rw [h1]; trivial
        · rw [h1, plc_ev I hp hu]
          refine SatC.pre (rest g env S v u I (.refl g) (A.ext (d := d) (.refl g) (Nat.le_refl (m + args.length)) ?_ n))
          cases hk : kd v with
          | own => exact (ho hk).elim
          | flat => exact .rep (s.of_flat hk)
          | bad =>
            cases s with
            | rep r => exact .rep r
            | own => cases hk
            | ownD => cases hk
            | lent a b c => exact .lent a b c
            | lentD a b c => exact .lentD a b c
            | scr a b c => exact .scr a b c
            | tkn => exact .tkn
        · rw [h1, plc_ev I hp hu]
          exact SatC.un I h0 hk hu hw (s _) (SatC.pre (rest (g.up l .ext) _ _ w (.ref l) (lend_scope (m := m) I h0 hk hu w hw (s _)).1 ((g.up_chg l _).fro (by rw [hl']; exact kind_ne_fro)) (A.chg (g.up_chg l _) hl' (s _) nw)))
    | mt =>
      simp only
      have hmd' : md[args.length]? = some .mt := by
        rw [List.headD_eq_head?_getD, List.head?_drop] at hmd
        cases hx : md[args.length]? with
        | none => rw [hx] at hmd; cases hmd
        | some x => rw [hx] at hmd; cases hmd; rfl
      cases hp : plc env S e with
      | none =>
        have e1 : takeA args.length (tak none env S (evP P pcf true e env S)) (fun u env S => evcP P pcf lf (md.drop args.length).tail r (args ++ [u]) env S) = (evP P pcf true e env S).arg fun u env S => evcP P pcf lf (md.drop args.length).tail r (args ++ [u]) env S := by
          unfold tak takeA
          cases evP P pcf true e env S <;> rfl
        rw [e1]
        exact plain
      | some p =>
        show SatC d m g env uenv S md uargs (takeA args.length (takeP p env S) _) _
        unfold takeP
        cases h0 : getP env S p with
        | none => trivial
        | some v =>
          obtain ⟨u, hu, s⟩ := I.pl p v h0
          cases hk : kd v with
          | bad => simp only [hk]; trivial
          | flat =>
            simp only [hk]
            rw [plc_ev I hp hu]
            exact SatC.pre (rest g env S v u I (.refl g) (A.ext (d := d) (.refl g) (Nat.le_refl (m + args.length)) (.rep (s.of_flat hk)) (fun e => by subst e; cases hk)))
          | own =>
            simp only [hk]
            obtain ⟨l, rfl, hl', _⟩ := s.own_at hk
            rw [plc_ev I hp hu]
            obtain ⟨I1, s1, _⟩ := take_scope (m := m) (k := m + args.length) I h0 hk hu (by omega)
            exact SatC.gv I h0 hk hu A.len.symm hmd' (rest _ _ _ v (.ref l) I1 ((g.up_chg l _).fro (by rw [hl']; exact kind_ne_fro)) (A.chg (g.up_chg l _) hl' s1 (fun e => by subst e; cases hk)))
/-- frozen list of values -/
theorem evsT_ok : ∀ (es : Es), AllE (OkX P pcf ucf) es → ∀ (m : Nat) (g : Gh) (env : VE) (uenv : Env) (S : OS), Inv d g env uenv S → Sat d m g env uenv S RepL (evsP P pcf true es env S) (evs P ucf es uenv g.S)
  | .nil, _, m, g, env, uenv, S, I => by unfold evsP evs; exact .val I .nil
  | .cons e r, h, m, g, env, uenv, S, I => by
    unfold evsP evs
    refine Sat.bind (h.1 d m g env uenv S I).2 fun g1 env1 S1 v u P1 t => ?_
    -- the temporary is frozen at once
    have key : ∃ g2, g2.S = g1.S ∧ Post d m g1 env1 uenv S1 g2 env1 uenv S1 ∧ Rep g2 (frz v) u := by
      cases hk : kd v with
      | bad => exact (t.2 hk).elim
      | flat => exact ⟨g1, rfl, P1.inv.post, by rw [frz_flat hk]; exact t.1.of_flat hk⟩
      | own =>
        obtain ⟨l, rfl, hl, cc, hc⟩ := t.1.own_at hk
        have ch := g1.up_chg l .fro
        have n : g1.κ l ≠ .fro := by rw [hl]; intro h; cases h
        have no : ∀ o, g1.κ l ≠ .o o := fun o => by rw [hl]; intro h; cases h
        have rl : Relab d g1 (g1.up l .fro) := by
          refine ⟨rfl, rfl, fun x e => ?_, fun x e => ?_, fun x p e => ?_, fun x o e => ?_, fun x e => ?_⟩ <;> rw [g1.up_ne _ (fun e2 => by rw [e2, hl] at e; first | (cases e; done) | (cases p <;> cases e))] <;> exact e
        refine ⟨g1.up l .fro, rfl, ⟨P1.inv.relab rl, ch.ext n (by rw [hl]; exact not_prot_t) (by rw [g1.up_at]; exact fun h => h), .relab rl⟩, ?_⟩
        cases t.1 with
        | rep r => rw [r.flat] at hk; cases hk
        | own a b c => exact .lst (g1.up_at l _) b (c.mono (ch.fro n))
        | ownD a b c => exact .dct (g1.up_at l _) b (c.mono (ch.fro n))
        | lent => cases hk
        | lentD => cases hk
        | scr => cases hk
        | tkn => cases hk
    obtain ⟨g2, e2, P2, rp⟩ := key
    rw [← e2]
    refine .post P2 (Sat.bind (evsT_ok r h.2 m g2 env1 uenv S1 P2.inv) fun g3 env3 S3 vs us P3 rs => ?_)
    exact .val P3.inv (.cons (rp.mono P3.ext.fro) rs)
/-- operands -/
theorem evsF_ok : ∀ (es : Es), AllE (OkX P pcf ucf) es → ∀ (m : Nat) (g : Gh) (env : VE) (uenv : Env) (S : OS), Inv d g env uenv S → Sat d m g env uenv S BrL (evsP P pcf false es env S) (evs P ucf es uenv g.S)
  | .nil, _, m, g, env, uenv, S, I => by unfold evsP evs; exact .val I .nil
  | .cons e r, h, m, g, env, uenv, S, I => by
    unfold evsP evs
    refine Sat.opd (q := quiets r) (relb := BrL) ?_ (fun g1 env1 S1 v u I1 _ m1 _ _ => evsF_ok r h.2 m1 g1 env1 uenv S1 I1) (fun q u St => quiets_adds P ucf r uenv St q) fun g2 env2 S2 v u w y I2 b bs => ?_
    · cases hq : quiets r with
      | true => exact (h.1 d m g env uenv S I).1
      | false => exact (h.1 d m g env uenv S I).2
    · exact .val I2 (.cons b bs)
end
end PyM
set_option linter.all false
set_option autoImplicit false
set_option maxRecDepth 100000
set_option maxHeartbeats 1000000
/-! The pure machine keeps what the small machine does: callees, what is walked. -/
namespace PyM
open PyI
section
variable {d m : Nat} {g g' g'' : Gh} {env env' env'' : VE} {uenv uenv' uenv'' : Env} {S S' S'' : OS} {α β γ δ : Type}
variable {P : Pg} {pcf : Nat → List Vl → OS → RC} {ucf : Nat → List U → Store → R U}
/-- the functions called -/
def CallOk (P : Pg) (pcf : Nat → List Vl → OS → RC) (ucf : Nat → List U → Store → R U) : Prop := ∀ (d m : Nat) (g : Gh) (S : OS) (f : Nat) (args : List Vl) (uargs : List U), Inv d g [] [] S → args.length = uargs.length →
  (∀ (j : Nat) (v : Vl) (u : U), args[j]? = some v → uargs[j]? = some u → Sl g (.e d j) v u ∧ v ≠ .tkn) → match pcf f args S with
    | .val r as S' => ∃ g' ur, ucf f uargs g.S = .val ur g'.S ∧ Post d m g [] [] S g' [] [] S' ∧ Tm2 m g' r ur ∧ ∀ (j : Nat) (v : Vl), (mdOf P f)[j]? = some .mt → as[j]?.join = some v → ∃ u, uargs[j]? = some u ∧ Sl g' (.e d j) v u
    | .exc c as S' => ∃ g', ucf f uargs g.S = .exc c none g'.S ∧ Post d m g [] [] S g' [] [] S' ∧ ∀ (j : Nat) (v : Vl), (mdOf P f)[j]? = some .mt → as[j]?.join = some v → ∃ u, uargs[j]? = some u ∧ Sl g' (.e d j) v u
    | .stuck => True
def Gh.rl (g : Gh) (m n d s : Nat) : Gh := { g with κ := fun l => match g.κ l with
  | .t k => if m ≤ k ∧ k < m + n then .e (d + 1) (k - m + s) else .t k
  | k => k }
def Gh.ul (g : Gh) (d s : Nat) : Gh := { g with κ := fun l => match g.κ l with
  | .e k i => if k = d + 1 then .e k (i - s) else .e k i
  | k => k }
theorem Gh.rl_relab (g : Gh) (m n d s : Nat) : Relab d g (g.rl m n d s) := by
  refine ⟨rfl, rfl, fun l e => ?_, fun l e => ?_, fun l p e => ?_, fun l o e => ?_, fun l e => ?_⟩ <;> simp only [Gh.rl, e]
  cases p <;> rfl
theorem Gh.ul_relab (g : Gh) (d s : Nat) : Relab d g (g.ul d s) := by
  refine ⟨rfl, rfl, fun l e => ?_, fun l e => ?_, fun l p e => ?_, fun l o e => ?_, fun l e => ?_⟩ <;> simp only [Gh.ul, e]
  cases p
  · exact if_neg (by omega)
  · rfl
theorem Relab.post (h : Relab d g g') (I : Inv d g env uenv S) (k : ∀ l, prot d m (g.κ l) → g'.κ l = g.κ l) (b : ∀ l, prot d m (g'.κ l) → g'.κ l = g.κ l) : Post d m g env uenv S g' env uenv S :=
  ⟨I.relab h, ⟨h.frs, fun l e => ⟨k l e, by rw [h.S]⟩, b, by rw [h.S]; exact Nat.le_refl _⟩, .relab h⟩
theorem rl_post (I : Inv d g env uenv S) (n s : Nat) : Post d m g env uenv S (g.rl m n d s) env uenv S := by
  refine (g.rl_relab m n d s).post I (fun l h => ?_) (fun l h => ?_)
  · cases hk : g.κ l <;> simp only [Gh.rl, hk]
    rename_i k
    rw [hk] at h
    exact if_neg (by have : k < m := h; omega)
  · cases hk : g.κ l <;> simp only [Gh.rl, hk] at h ⊢
    rename_i k
    split
    · rename_i c
      rw [if_pos c] at h
      exact absurd h (by show ¬ d + 1 < d; omega)
    · rfl
theorem ul_post (I : Inv d g env uenv S) (s : Nat) : Post d m g env uenv S (g.ul d s) env uenv S := by
  refine (g.ul_relab d s).post I (fun l h => ?_) (fun l h => ?_)
  · cases hk : g.κ l <;> simp only [Gh.ul, hk]
    rename_i k i
    rw [hk] at h
    exact if_neg (by have : k < d := h; omega)
  · cases hk : g.κ l <;> simp only [Gh.ul, hk] at h ⊢
    rename_i k i
    split
    · rename_i c
      rw [if_pos c] at h
      exact absurd h (by show ¬ k < d; omega)
    · rfl
/-- a callee's frame, left -/
theorem frame_post (I : Inv d g env uenv S) (h : Post (d + 1) m g [] [] S g' [] [] S') : Post d m g env uenv S g' env uenv S' := by
  refine ⟨⟨fun p v e => ?_, I.el, h.inv.ol, h.inv.ob, h.inv.gar⟩, h.ext.le (by omega) (Nat.le_refl _), fun p v e k => ?_⟩
  · cases p with
    | var i =>
      obtain ⟨u, hu, s⟩ := I.pl (.var i) v e
      refine ⟨u, hu, s.mono h.ext.fro fun l _ k => h.ext.keep l ?_⟩
      rcases k with k | k <;> rw [k]
      · exact Nat.lt_succ_self d
      · trivial
    | fld o f => exact h.inv.pl (.fld o f) v e
  · cases p with
    | var i => exact ⟨e, rfl⟩
    | fld o f => exact h.ls (.fld o f) v e k
theorem Sl.flatK {k k' : Kd} {v : Vl} {u : U} (h : Sl g k v u) (n : kd v ≠ .own) : Sl g k' v u := by
  cases h with
  | rep r => exact .rep r
  | own => exact (n rfl).elim
  | ownD => exact (n rfl).elim
  | lent a b c => exact .lent a b c
  | lentD a b c => exact .lentD a b c
  | scr a b c => exact .scr a b c
  | tkn => exact .tkn
/-- an owned thing whose kind, and nothing else, is another one -/
theorem Sl.kindTo {k k' : Kd} {v : Vl} {u : U} (h : Sl g k v u) (r : Relab d g g') (e : ∀ l, u = .ref l → g.κ l = k → g'.κ l = k') : Sl g' k' v u := by
  have f := r.frs
  cases h with
  | rep r => exact .rep (r.mono f)
  | own a b c => exact .own (e _ rfl a) (by rw [r.S]; exact b) (c.mono f)
  | ownD a b c => exact .ownD (e _ rfl a) (by rw [r.S]; exact b) (c.mono f)
  | lent a b c => exact .lent (r.ext _ a) (by rw [r.S]; exact b) (c.mono f)
  | lentD a b c => exact .lentD (r.ext _ a) (by rw [r.S]; exact b) (c.mono f)
  | scr a b c => exact .scr (r.ext _ a) (by rw [r.S]; exact b) (c.mono f)
  | tkn => exact .tkn
theorem leaf_gen (hc : CallOk P pcf ucf) {f : Nat} {ex : List Vl} {uex : List U} (hl : ex.length = uex.length) (hex : ∀ (j : Nat) (v : Vl) (u : U), ex[j]? = some v → uex[j]? = some u → Rep g v u) (I : Inv d g env uenv S) {args : List Vl} {uargs : List U} (A : ArgR m g args uargs) :
    match pcf f (ex ++ args) S with
    | .val r as S' => ∃ g' ur, ucf f (uex ++ uargs) g.S = .val ur g'.S ∧ Post d m g env uenv S g' env uenv S' ∧ Tm2 m g' r ur ∧ ∀ (j : Nat) (v : Vl), (mdOf P f)[j + ex.length]? = some .mt → as[j + ex.length]?.join = some v → ∃ u, uargs[j]? = some u ∧ Sl g' (.e (d + 1) j) v u
    | .exc c as S' => ∃ g', ucf f (uex ++ uargs) g.S = .exc c none g'.S ∧ Post d m g env uenv S g' env uenv S' ∧ ∀ (j : Nat) (v : Vl), (mdOf P f)[j + ex.length]? = some .mt → as[j + ex.length]?.join = some v → ∃ u, uargs[j]? = some u ∧ Sl g' (.e (d + 1) j) v u
    | .stuck => True := by
  have P1 := rl_post (m := m) I args.length ex.length
  have R1 := g.rl_relab m args.length d ex.length
  have I0 : Inv (d + 1) (g.rl m args.length d ex.length) [] [] S := ⟨fun p v e => by
    cases p with
    | var i => cases e
    | fld o f => exact P1.inv.pl (.fld o f) v e, rfl, P1.inv.ol, P1.inv.ob, P1.inv.gar⟩
  have hA : ∀ (j : Nat) (v : Vl) (u : U), (ex ++ args)[j]? = some v → (uex ++ uargs)[j]? = some u → Sl (g.rl m args.length d ex.length) (.e (d + 1) j) v u ∧ v ≠ .tkn := fun j v u h1 h2 => by
    by_cases hj : j < ex.length
    · rw [List.getElem?_append_left hj] at h1
      rw [List.getElem?_append_left (by omega)] at h2
      have r := hex j v u h1 h2
      exact ⟨.rep (r.mono R1.frs), by intro e; subst e; cases r⟩
    · rw [List.getElem?_append_right (by omega)] at h1
      rw [List.getElem?_append_right (by omega), ← hl] at h2
      obtain ⟨s, n⟩ := A.at_ _ v u h1 h2
      refine ⟨s.kindTo R1 fun l _ e => ?_, n⟩
      have hlt := (List.getElem?_eq_some_iff.mp h1).1
      show (match g.κ l with
        | .t k => if m ≤ k ∧ k < m + args.length then Kd.e (d + 1) (k - m + ex.length) else .t k
        | k => k) = _
      rw [e]
      simp only
      rw [if_pos ⟨by omega, by omega⟩]
      congr 1
      omega
  have C := hc (d + 1) m _ S f (ex ++ args) (uex ++ uargs) I0 (by rw [List.length_append, List.length_append, hl, A.len]) hA
  have post : ∀ {g2 : Gh} {S2 : OS}, Post (d + 1) m (g.rl m args.length d ex.length) [] [] S g2 [] [] S2 → Post d m g env uenv S (g2.ul d ex.length) env uenv S2 := fun {g2 S2} h => by
    have a := P1.trans (frame_post P1.inv h)
    exact a.trans (ul_post a.inv ex.length)
  have back : ∀ {g2 : Gh} {as : VE}, (∀ (j : Nat) (v : Vl), (mdOf P f)[j]? = some .mt → as[j]?.join = some v → ∃ u, (uex ++ uargs)[j]? = some u ∧ Sl g2 (.e (d + 1) j) v u) → ∀ (j : Nat) (v : Vl), (mdOf P f)[j + ex.length]? = some .mt → as[j + ex.length]?.join = some v → ∃ u, uargs[j]? = some u ∧ Sl (g2.ul d ex.length) (.e (d + 1) j) v u := fun {g2 as} h j v h1 h2 => by
    obtain ⟨u, hu, s⟩ := h _ v h1 h2
    rw [List.getElem?_append_right (by omega), hl, Nat.add_sub_cancel] at hu
    refine ⟨u, hu, s.kindTo (g2.ul_relab d ex.length) fun l _ e => ?_⟩
    show (match g2.κ l with
      | .e k i => if k = d + 1 then Kd.e k (i - ex.length) else .e k i
      | k => k) = _
    rw [e]
    simp only [if_true]
    congr 1
    omega
  cases hr : pcf f (ex ++ args) S with
  | val r as S2 =>
    rw [hr] at C
    obtain ⟨g2, ur, e, p, t, b⟩ := C
    refine ⟨g2.ul d ex.length, ur, e, post p, t.relab rfl rfl fun l e => ?_, back b⟩
    rcases e with e | e <;> simp only [Gh.ul, e]
  | exc c as S2 =>
    rw [hr] at C
    obtain ⟨g2, e, p, b⟩ := C
    exact ⟨g2.ul d ex.length, e, post p, back b⟩
  | stuck => trivial
theorem leaf_call (hc : CallOk P pcf ucf) (f : Nat) : LeafOk d m (fun _ => True) (mdOf P f) (pcf f) (ucf f) := fun g env uenv S args uargs I _ A => by
  have L := leaf_gen (f := f) (ex := []) (uex := []) hc rfl (fun j v u h => by cases h) I A
  simp only [List.nil_append] at L
  cases hr : pcf f args S with
  | val r as S2 =>
    rw [hr] at L
    obtain ⟨g2, ur, e, p, t, b⟩ := L
    exact ⟨g2, ur, uargs, e, p, t, List.prefix_refl _, fun j v _ h1 h2 _ => b j v h1 h2⟩
  | exc c as S2 =>
    rw [hr] at L
    obtain ⟨g2, e, p, b⟩ := L
    exact ⟨g2, uargs, e, p, List.prefix_refl _, fun j v _ h1 h2 _ => b j v h1 h2⟩
  | stuck => trivial
theorem tail_at {α : Type} {xs : List α} {j : Nat} : xs.tail[j]? = xs[j + 1]? := by rw [List.getElem?_tail]
theorem leaf_meth (hc : CallOk P pcf ucf) (f i l : Nat) : LeafOk d m (fun g => g.om[i]? = some l) (mdOf P f).tail (lfM pcf f i) (fun us St => ucf f (.ref l :: us) St) := fun g env uenv S args uargs I hi A => by
  have L := leaf_gen (f := f) (ex := [.obj i]) (uex := [.ref l]) hc rfl (fun j v u h1 h2 => by
    cases j with
    | zero => cases h1; cases h2; exact .obj hi
    | succ j => cases h1) I A
  simp only [List.cons_append, List.nil_append] at L
  unfold lfM
  cases hr : pcf f (.obj i :: args) S with
  | val r as S2 =>
    rw [hr] at L
    obtain ⟨g2, ur, e, p, t, b⟩ := L
    exact ⟨g2, ur, uargs, e, p, t, List.prefix_refl _, fun j v _ h1 h2 _ => b j v (by rw [tail_at] at h1; exact h1) (by rw [tail_at] at h2; exact h2)⟩
  | exc c as S2 =>
    rw [hr] at L
    obtain ⟨g2, e, p, b⟩ := L
    exact ⟨g2, uargs, e, p, List.prefix_refl _, fun j v _ h1 h2 _ => b j v (by rw [tail_at] at h1; exact h1) (by rw [tail_at] at h2; exact h2)⟩
  | stuck => trivial
/-- a new object -/
def Gh.newO (g : Gh) (c : Nat) : Gh := { κ := fun x => if x = g.S.length then .o g.om.length else g.κ x, om := g.om ++ [g.S.length], S := g.S ++ [.ins c []] }
theorem newO_post (I : Inv d g env uenv S) (c : Nat) : Post d m g env uenv S (g.newO c) env uenv (S ++ [(c, [])]) := by
  have hk : ∀ l, g.κ l ≠ .gar → (g.newO c).κ l = g.κ l ∧ (g.newO c).S[l]? = g.S[l]? := fun l h => by
    have := I.lt h
    exact ⟨if_neg (by omega), List.getElem?_append_left this⟩
  have hf : Fro g (g.newO c) := ⟨fun l e => by have := hk l (by rw [e]; intro h; cases h); exact ⟨this.1.trans e, this.2⟩, List.prefix_append _ _⟩
  have hlt : ∀ {o f : Nat} {v : Vl}, getF (S ++ [(c, [])]) o f = some v → getF S o f = some v := fun {o f v} h => by
    unfold getF at h ⊢
    by_cases e : o < S.length
    · rw [List.getElem?_append_left e] at h; exact h
    · rw [List.getElem?_append_right (by omega)] at h
      by_cases e2 : o - S.length = 0
      · rw [e2] at h; cases h
      · have : ([(c, [])] : OS)[o - S.length]? = none := by
          rw [List.getElem?_eq_none]; simp; omega
        rw [this] at h; cases h
  have hgp : ∀ p v, getP env (S ++ [(c, [])]) p = some v → getP env S p = some v := fun p v h => by
    cases p with
    | var i => exact h
    | fld o f => exact hlt h
  have hg : ∀ p v, getP env S p = some v → getU uenv (g.newO c) p = getU uenv g p := by
    intro p v h
    cases p with
    | var i => rfl
    | fld o f =>
      obtain ⟨c', fs, e, _⟩ := getF_at h
      obtain ⟨l, ufs, h1, h2, h3, h4⟩ := I.ob o c' fs e
      have := (hk l (by rw [h2]; intro h; cases h)).2
      have e2 : (g.newO c).om[o]? = some l := pre_get hf.om h1
      simp only [getU, e2, h1, this]
  refine ⟨⟨fun p v h => ?_, I.el, ?_, fun o c' fs e => ?_, fun l h => ?_⟩, ⟨hf, fun l p => hk l (fun e => by rw [e] at p; exact p), fun l p => ?_, ?_⟩, fun p v h _ => ⟨hgp p v h, hg p v (hgp p v h)⟩⟩
  · have h' := hgp p v h
    obtain ⟨u, hu, s⟩ := I.pl p v h'
    refine ⟨u, (hg p v h').trans hu, s.mono hf fun l _ e => hk l ?_⟩
    rcases e with e | e <;> rw [e]
    · exact kind_ne_gar
    · intro h; cases h
  · show (g.om ++ [g.S.length]).length = _
    rw [List.length_append, List.length_append, I.ol]; rfl
  · by_cases eo : o < S.length
    · rw [List.getElem?_append_left eo] at e
      obtain ⟨l, ufs, h1, h2, h3, h4⟩ := I.ob o c' fs e
      have := hk l (by rw [h2]; intro h; cases h)
      exact ⟨l, ufs, pre_get hf.om h1, this.1.trans h2, this.2.trans h3, h4⟩
    · have e3 : o = S.length := by
        have := (List.getElem?_eq_some_iff.mp e).1
        rw [List.length_append] at this
        simp at this
        omega
      subst e3
      rw [List.getElem?_append_right (Nat.le_refl _), Nat.sub_self] at e
      cases e
      refine ⟨g.S.length, [], ?_, ?_, ?_, rfl⟩
      · show (g.om ++ [g.S.length])[S.length]? = _
        rw [← I.ol]; simp
      · show (if g.S.length = g.S.length then Kd.o g.om.length else _) = _
        rw [if_pos rfl, I.ol]
      · show (g.S ++ [_])[g.S.length]? = _
        simp
  · have h2 : g.S.length + 1 ≤ l := by
      have : (g.newO c).S = g.S ++ [.ins c []] := rfl
      rw [this, List.length_append] at h
      exact h
    show (if l = g.S.length then _ else _) = _
    rw [if_neg (by omega)]
    exact I.gar l (by omega)
  · by_cases e : l = g.S.length
    · exfalso
      have : (g.newO c).κ l = .o g.om.length := if_pos e
      rw [this] at p
      exact p
    · exact if_neg e
  · show g.S.length ≤ (g.S ++ [_]).length
    simp
theorem leaf_mk (hc : CallOk P pcf ucf) (f c : Nat) : LeafOk d m (fun _ => True) (mdOf P f).tail (lfK pcf f c) (fun us St => (ucf f (.ref St.length :: us) (St ++ [.ins c []])).bind fun u S1 => match u with
    | .non => .val (.ref St.length) S1
    | _ => .stuck) := fun g env uenv S args uargs I _ A => by
  have P1 := newO_post (m := m) I c
  have hob : (g.newO c).om[S.length]? = some g.S.length := by
    show (g.om ++ [g.S.length])[S.length]? = _
    rw [← I.ol]; simp
  have A1 : ArgR m (g.newO c) args uargs := ⟨A.len, fun j v u h1 h2 => by
    obtain ⟨s, n⟩ := A.at_ j v u h1 h2
    refine ⟨s.mono P1.ext.fro fun l _ k => ?_, n⟩
    have : l < g.S.length := I.lt (by rcases k with k | k <;> rw [k] <;> intro h <;> cases h)
    exact ⟨if_neg (by omega), List.getElem?_append_left this⟩⟩
  have L := leaf_gen (f := f) (ex := [.obj S.length]) (uex := [.ref g.S.length]) hc rfl (fun j v u h1 h2 => by
    cases j with
    | zero => cases h1; cases h2; exact .obj hob
    | succ j => cases h1) P1.inv A1
  simp only [List.cons_append, List.nil_append] at L
  unfold lfK
  cases hr : pcf f (.obj S.length :: args) (S ++ [(c, [])]) with
  | val r as S2 =>
    rw [hr] at L
    obtain ⟨g2, ur, e, p, t, b⟩ := L
    cases r <;> first | trivial | skip
    cases (t.1.br (by intro h; cases h)).non'
    refine ⟨g2, .ref g.S.length, uargs, ?_, P1.trans p, Tm2.rep (.obj (pre_get p.ext.fro.om hob)), List.prefix_refl _, fun j v _ h1 h2 _ => b j v (by rw [tail_at] at h1; exact h1) (by rw [tail_at] at h2; exact h2)⟩
    show (ucf f (.ref g.S.length :: uargs) (g.newO c).S).bind _ = _
    rw [e]
    rfl
  | exc x as S2 =>
    rw [hr] at L
    obtain ⟨g2, e, p, b⟩ := L
    refine ⟨g2, uargs, ?_, P1.trans p, List.prefix_refl _, fun j v _ h1 h2 _ => b j v (by rw [tail_at] at h1; exact h1) (by rw [tail_at] at h2; exact h2)⟩
    show (ucf f (.ref g.S.length :: uargs) (g.newO c).S).bind _ = _
    rw [e]
    rfl
  | stuck => trivial
end
end PyM
set_option linter.all false
set_option autoImplicit false
set_option maxRecDepth 100000
set_option maxHeartbeats 1000000
/-! The pure machine keeps what the small machine does: what is walked, and names that are bound. -/
namespace PyM
open PyI
section
variable {d m M : Nat} {g g' g'' : Gh} {env env' env'' : VE} {uenv uenv' uenv'' : Env} {S S' S'' : OS} {α β γ δ : Type}
variable {P : Pg} {pcf : Nat → List Vl → OS → RC} {ucf : Nat → List U → Store → R U}
/-- the lent places are given back -/
def Back (d M m : Nat) (g : Gh) (env : VE) (uenv : Env) (S : OS) (g1 : Gh) (env1 : VE) (uenv1 : Env) (S1 : OS) (ps : List Pl) : Prop := ∀ (g2 : Gh) (env2 : VE) (uenv2 : Env) (S2 : OS) (env3 : VE) (S3 : OS), Post d M g1 env1 uenv1 S1 g2 env2 uenv2 S2 → unlends ps env2 S2 = .val () env3 S3 →
  ∃ g3, g3.S = g2.S ∧ g3.om = g2.om ∧ (∀ x, g2.κ x ≠ .ext → g3.κ x = g2.κ x) ∧ Post d m g env uenv S g3 env3 uenv2 S3
theorem Back.nil (p : Post d m g env uenv S g' env' uenv' S') (h : m ≤ M) : Back d M m g env uenv S g' env' uenv' S' [] := fun g2 env2 uenv2 S2 env3 S3 p2 e => by
  cases e
  exact ⟨g2, rfl, rfl, fun _ _ => rfl, p.trans (p2.le h)⟩
theorem Back.one {p : Pl} {v w : Vl} {l : Nat} (P0 : Post d m g env uenv S g' env' uenv' S') (h : m ≤ M) (h0 : getP env' S' p = some v) (hk : kd v = .own) (hu : getU uenv' g' p = some (.ref l)) (hw : kd w = .bad) (hs : Sl (g'.up l .ext) (kindP d p) w (.ref l)) :
    Back d M m g env uenv S (g'.up l .ext) (putE env' p w) uenv' (putS S' p w) [p] := fun g2 env2 uenv2 S2 env3 S3 p2 e => by
  unfold unlends at e
  rcases unlend_cases p env2 S2 with hc | ⟨env4, S4, hc⟩
  · rw [hc] at e; cases e
  · rw [hc] at e
    cases e
    obtain ⟨P3, k2, _⟩ := (lend_scope (m := m) P0.inv h0 hk hu w hw hs).2 g2 env2 uenv2 S2 env3 S3 (p2.le h) hc
    exact ⟨g2.up l (kindP d p), rfl, rfl, fun x hx => g2.up_ne _ fun e => hx (e ▸ k2), P0.trans P3⟩
theorem unlends_app (ps qs : List Pl) (env : VE) (S : OS) : unlends (ps ++ qs) env S = (unlends ps env S).bind fun _ env S => unlends qs env S := by
  induction ps generalizing env S with
  | nil => rfl
  | cons p ps ih =>
    show (unlend p env S).bind _ = ((unlend p env S).bind _).bind _
    cases unlend p env S with
    | val a env' S' => exact ih env' S'
    | exc c env' S' => rfl
    | stuck => rfl
theorem Back.app {M1 : Nat} {ps qs : List Pl} (a : Back d M1 m g env uenv S g' env' uenv' S' qs) (b : Back d M M1 g' env' uenv' S' g'' env'' uenv'' S'' ps) : Back d M m g env uenv S g'' env'' uenv'' S'' (ps ++ qs) := fun g2 env2 uenv2 S2 env3 S3 p2 e => by
  rw [unlends_app] at e
  cases h : unlends ps env2 S2 with
  | val x env4 S4 =>
    rw [h] at e
    obtain ⟨g3, e1, e2, e3, p3⟩ := b g2 env2 uenv2 S2 env4 S4 p2 h
    obtain ⟨g4, f1, f2, f3, p4⟩ := a g3 env4 uenv2 S4 env3 S3 p3 e
    exact ⟨g4, f1.trans e1, f2.trans e2, fun x hx => by rw [f3 x (by rw [e3 x hx]; exact hx), e3 x hx], p4⟩
  | exc c env4 S4 => rw [h] at e; cases e
  | stuck => rw [h] at e; cases e
theorem Back.le {M' : Nat} {ps : List Pl} (a : Back d M m g env uenv S g' env' uenv' S' ps) (h : M ≤ M') : Back d M' m g env uenv S g' env' uenv' S' ps := fun g2 env2 uenv2 S2 env3 S3 p2 e => a g2 env2 uenv2 S2 env3 S3 (p2.le h) e
/-- a list that is walked stays -/
def Safe (d M : Nat) (g : Gh) (l : Nat) : Prop := prot d M (g.κ l) ∨ g.κ l = .fro
theorem Safe.ext {l : Nat} (h : Safe d M g l) (e : Ext d M g g') : Safe d M g' l ∧ g'.S[l]? = g.S[l]? := by
  rcases h with h | h
  · obtain ⟨a, b⟩ := e.keep l h
    exact ⟨.inl (by rw [a]; exact h), b⟩
  · obtain ⟨a, b⟩ := e.fro.fro l h
    exact ⟨.inr a, b⟩
def Keep (d M : Nat) (g g' : Gh) : Prop := Fro g g' ∧ ∀ l, Safe d M g l → g'.κ l = g.κ l ∧ g'.S[l]? = g.S[l]?
theorem Ext.safe (e : Ext d M g g') : Keep d M g g' := ⟨e.fro, fun l h => by
  rcases h with h | h
  · exact e.keep l h
  · obtain ⟨a, b⟩ := e.fro.fro l h
    exact ⟨a.trans h.symm, b⟩⟩
theorem up_safe {l : Nat} {p : Pl} (h : g.κ l = kindP d p) : Keep d M g (g.up l .ext) := ⟨(g.up_chg l _).fro (by rw [h]; exact kind_ne_fro), fun x hx => by
  have : x ≠ l := fun e => by
    subst e
    rcases hx with hx | hx
    · rw [h] at hx; exact not_prot_kind hx
    · rw [h] at hx; exact kind_ne_fro hx
  exact (g.up_chg l .ext).ne x this⟩
/-- it may be walked, and is no elder temporary -/
def Wk (d m M : Nat) (g : Gh) (l : Nat) : Prop := Safe d M g l ∧ ∀ k, k < m → g.κ l ≠ .t k
theorem Wk.le {l m' M' : Nat} (h : Wk d m M g l) (a : m' ≤ m) (e : M ≤ M') : Wk d m' M' g l := ⟨h.1.elim (fun h => .inl (h.le (Nat.le_refl _) e)) .inr, fun k hk => h.2 k (by omega)⟩
def SatL (d m : Nat) (g : Gh) (env : VE) (uenv : Env) (S : OS) (r : RP (Vl × Option Pl)) (x : R U) : Prop := match r with
  | .val a env' S' => ∃ g' b, x = .val b g'.S ∧ Inv d g' env' uenv S' ∧ Br g' a.1 b ∧ (∀ l, b = .ref l → (itemsP a.1).isSome → Wk d m (m + 1) g' l) ∧ Back d (m + 1) m g env uenv S g' env' uenv S' a.2.toList ∧ Keep d m g g' ∧ (a.2 = none → Post d m g env uenv S g' env' uenv S')
  | .exc c env' S' => ∃ g', x = .exc c none g'.S ∧ Post d m g env uenv S g' env' uenv S'
  | .stuck => True
theorem lnd_none_ok {e : E} (h : OkX P pcf ucf e) (I : Inv d g env uenv S) : SatL d m g env uenv S (lnd none env S (evP P pcf true e env S)) (ev P ucf e uenv g.S) := by
  have s := (h d m g env uenv S I).2
  unfold lnd
  cases hr : evP P pcf true e env S with
  | val v env1 S1 =>
    rw [hr] at s
    obtain ⟨g1, u, ee, P1, t⟩ := s
    refine ⟨g1, u, ee, P1.inv, t.br, fun l hu hi => ?_, .nil P1 (by omega), P1.ext.safe, fun _ => P1⟩
    subst hu
    have hi : (itemsP v).isSome = true := hi
    cases t.1 with
    | rep r =>
      cases r with
      | lst a b c => exact ⟨.inr a, fun k _ => by rw [a]; intro h; cases h⟩
      | obj a => cases hi
      | dct a b c => cases hi
    | own a b c => exact ⟨.inl (by rw [a]; exact Nat.lt_succ_self m), fun k hk => by rw [a]; intro h; injection h with h; omega⟩
    | ownD => cases hi
    | lent => exact (t.2 rfl).elim
    | lentD => exact (t.2 rfl).elim
    | scr => exact (t.2 rfl).elim
    | tkn => exact (t.2 rfl).elim
  | exc c env1 S1 =>
    rw [hr] at s
    exact s
  | stuck => trivial
theorem lnd_ok {e : E} (h : OkX P pcf ucf e) (I : Inv d g env uenv S) : SatL d m g env uenv S (lnd (plc env S e) env S (evP P pcf true e env S)) (ev P ucf e uenv g.S) := by
  cases hp : plc env S e with
  | none =>
    exact lnd_none_ok h I
  | some p =>
    show SatL d m g env uenv S (lend p env S) _
    rcases lend_cases I p with h1 | ⟨v, u, h0, hu, n, ho, h1, s⟩ | ⟨v, w, l, h0, hk, hu, hl', hw, nw, h1, s, _⟩
    · rw [h1]; trivial
    · rw [h1, plc_ev I hp hu]
      refine ⟨g, u, rfl, I, s.br n, fun l hu hi => ?_, .nil I.post (by omega), (Ext.refl g).safe, fun _ => I.post⟩
      subst hu
      have hi : (itemsP v).isSome = true := hi
      cases s with
      | rep r =>
        cases r with
        | lst a b c => exact ⟨.inr a, fun k _ => by rw [a]; intro h; cases h⟩
        | obj a => cases hi
        | dct a b c => cases hi
      | own a b c => exact (ho rfl).elim
      | ownD => cases hi
      | lent a b c => exact ⟨.inl (by rw [a]; trivial), fun k _ => by rw [a]; intro h; cases h⟩
      | lentD => cases hi
      | scr a b c => exact ⟨.inl (by rw [a]; trivial), fun k _ => by rw [a]; intro h; cases h⟩
      | tkn => exact (n rfl).elim
    · rw [h1, plc_ev I hp hu]
      refine ⟨g.up l .ext, .ref l, rfl, (lend_scope (m := m) I h0 hk hu w hw (s _)).1, (s .gar).br nw, fun l' hu' _ => ?_, Back.one I.post (by omega) h0 hk hu hw (s _), up_safe hl', fun h => by cases h⟩
      cases hu'
      exact ⟨.inl (by rw [g.up_at]; trivial), fun k _ => by rw [g.up_at]; intro h; cases h⟩
/-- what a loop walks -/
def SatQ (d m : Nat) (g : Gh) (env : VE) (uenv : Env) (S : OS) (r : RP SqP) (x : R Sq) : Prop := match r with
  | .val q env' S' => ∃ g' qs, x = .val qs g'.S ∧ Inv d g' env' uenv S' ∧ RepL g' q.items qs.items ∧ (∀ p ∈ qs.watch, itemsU g'.S (.ref p.1) = some p.2 ∧ Wk d m (m + 2) g' p.1) ∧ Back d (m + 2) m g env uenv S g' env' uenv S' q.back ∧ (q.back = [] → Post d m g env uenv S g' env' uenv S')
  | .exc c env' S' => ∃ g', x = .exc c none g'.S ∧ Post d m g env uenv S g' env' uenv S'
  | .stuck => True
theorem Safe.le {l M' : Nat} (h : Safe d M g l) (e : M ≤ M') : Safe d M' g l := h.elim (fun h => .inl (h.le (Nat.le_refl _) e)) .inr
theorem rep_chars (cs : List Nat) : RepL g (cs.map fun c => .str ⟨#[c]⟩) (cs.map fun c => .str ⟨#[c]⟩) := by
  induction cs with
  | nil => exact .nil
  | cons c cs ih => exact .cons (.str _) ih
theorem rep_map {f : Nat → Int} (ns : List Nat) : RepL g (ns.map fun k => .int (f k)) (ns.map fun k => .int (f k)) := by
  induction ns with
  | nil => exact .nil
  | cons c cs ih => exact .cons (.int _) ih
theorem rep_enum {vs : List Vl} {us : List U} (r : RepL g vs us) : ∀ k : Nat, RepL g ((vs.zipIdx k).map fun p => .tup [.int p.2, p.1]) ((us.zipIdx k).map fun p => .tup [.int p.2, p.1]) := by
  induction vs generalizing us with
  | nil => intro k; cases r; exact .nil
  | cons v vs ih =>
    intro k
    cases r with
    | cons a r => exact .cons (.tup (.cons (.int _) (.cons a .nil))) (ih r (k + 1))
theorem rep_zip {vs : List Vl} {us : List U} {ws : List Vl} {xs : List U} (r : RepL g vs us) (s : RepL g ws xs) : RepL g ((vs.zip ws).map fun z => .tup [z.1, z.2]) ((us.zip xs).map fun z => .tup [z.1, z.2]) := by
  induction vs generalizing us ws xs with
  | nil => cases r; exact .nil
  | cons v vs ih =>
    cases r with
    | cons a r =>
      cases s with
      | nil => exact .nil
      | cons b s => exact .cons (.tup (.cons a (.cons b .nil))) (ih r s)
def wl (u : U) (us : List U) : List (Nat × List U) := match u with
  | .ref l => [(l, us)]
  | _ => []
/-- items of what is lent: where they stand -/
theorem seq_items {v : Vl} {u : U} (b : Br g v u) {vs : List Vl} (h : itemsP v = some vs) : ∃ us, sqU g.S u = some ⟨us, wl u us⟩ ∧ RepL g vs us ∧ itemsU g.S u = some us := by
  unfold itemsP at h
  split at h
  · cases h
    obtain ⟨us, rfl, r⟩ := b.tup'
    exact ⟨us, rfl, r, rfl⟩
  · cases h
    obtain ⟨l, us, rfl, a, r⟩ := b.lst'
    exact ⟨us, by simp only [sqU, a, wl], r, by simp only [itemsU, a]⟩
  · cases h
    obtain ⟨l, us, rfl, a, r⟩ := b.scr'
    exact ⟨us, by simp only [sqU, a, wl], r, by simp only [itemsU, a]⟩
  · cases h
theorem watch_ok {v : Vl} {u : U} {us : List U} {m m' M : Nat} (hm : m' ≤ M) (hs : ∀ l, u = .ref l → (itemsP v).isSome → Wk d m m' g l) (hi : (itemsP v).isSome) (h : itemsU g.S u = some us) : ∀ p ∈ wl u us, itemsU g.S (.ref p.1) = some p.2 ∧ Wk d m M g p.1 := by
  intro p hp
  unfold wl at hp
  split at hp
  · rename_i l
    simp only [List.mem_singleton] at hp
    subst hp
    exact ⟨h, (hs l rfl hi).le (Nat.le_refl _) hm⟩
  · cases hp
theorem toL {α : Type} {o : Option α} (h : o.toList = []) : o = none := by cases o <;> first | rfl | cases h
theorem loc_nil {d m M : Nat} {g : Gh} : ∀ p ∈ ([] : List (Nat × List U)), itemsU g.S (.ref p.1) = some p.2 ∧ Wk d m M g p.1 := fun p h => by cases h
theorem sat_bind_q {r : RP (Vl × Option Pl)} {x : R U} {f : Vl × Option Pl → VE → OS → RP SqP} {h : U → Store → R Sq} (s : SatL d m g env uenv S r x)
    (k : ∀ g' env' S' a b, Inv d g' env' uenv S' → Br g' a.1 b → (∀ l, b = .ref l → (itemsP a.1).isSome → Wk d m (m + 1) g' l) → Back d (m + 1) m g env uenv S g' env' uenv S' a.2.toList → (a.2 = none → Post d m g env uenv S g' env' uenv S') → SatQ d m g env uenv S (f a env' S') (h b g'.S)) : SatQ d m g env uenv S (r.bind f) (x.bind h) := by
  cases r with
  | val a env' S' => obtain ⟨g', b, rfl, I, br, sf, bk, kp, po⟩ := s; exact k g' env' S' a b I br sf bk po
  | exc c env' S' => obtain ⟨g', rfl, p⟩ := s; exact ⟨g', rfl, p⟩
  | stuck => trivial
theorem sat_plain_q {rel : Gh → α → β → Prop} {r : RP α} {x : R β} {f : α → VE → OS → RP SqP} {h : β → Store → R Sq} (s : Sat d m g env uenv S rel r x)
    (k : ∀ g' env' S' a b, Post d m g env uenv S g' env' uenv S' → rel g' a b → SatQ d m g env uenv S (f a env' S') (h b g'.S)) : SatQ d m g env uenv S (r.bind f) (x.bind h) := by
  cases r with
  | val a env' S' => obtain ⟨g', b, rfl, p, q⟩ := s; exact k g' env' S' a b p q
  | exc c env' S' => obtain ⟨g', rfl, p⟩ := s; exact ⟨g', rfl, p⟩
  | stuck => trivial
def OkI (P : Pg) (pcf : Nat → List Vl → OS → RC) (ucf : Nat → List U → Store → R U) (it : It) : Prop := ∀ (d m : Nat) (g : Gh) (env : VE) (uenv : Env) (S : OS), Inv d g env uenv S → SatQ d m g env uenv S (eviP P pcf it env S) (evi P ucf it uenv g.S)
theorem okI_seq {e : E} (h : OkX P pcf ucf e) : OkI P pcf ucf (.seq e) := fun d m g env uenv S I => by
  unfold eviP evi
  refine sat_bind_q (lnd_ok h I) fun g1 env1 S1 a b I1 br sf bk po => ?_
  obtain ⟨v, o⟩ := a
  have gen : ∀ vs, itemsP v = some vs → (∀ s, v ≠ .str s) → SatQ d m g env uenv S (.val ⟨vs, o.toList⟩ env1 S1) (ofO g1.S (sqS g1.S b)) := fun vs hv ns => by
    obtain ⟨us, e1, r, e2⟩ := seq_items br hv
    have e3 : sqS g1.S b = sqU g1.S b := by
      cases b <;> first | rfl | skip
      rename_i x
      cases br with
      | rep r => cases r; exact (ns _ rfl).elim
    rw [e3, e1]
    exact ⟨g1, _, rfl, I1, r, watch_ok (M := m + 2) (m' := m + 1) (by omega) sf (by rw [hv]; rfl) e2, bk.le (by omega), fun h => po (toL h)⟩
  cases v with
  | str s =>
    cases br.str'
    exact ⟨g1, _, rfl, I1, rep_chars _, loc_nil, bk.le (by omega), fun h => po (toL h)⟩
  | tup vs => exact gen vs rfl (fun s h => by cases h)
  | lst o vs => exact gen vs rfl (fun s h => by cases h)
  | scr vs => exact gen vs rfl (fun s h => by cases h)
  | non => trivial
  | bl b => trivial
  | int b => trivial
  | dct b c => trivial
  | obj b => trivial
  | fn b => trivial
  | tkn => trivial
theorem okI_rng1 {e : E} (h : OkX P pcf ucf e) : OkI P pcf ucf (.rng1 e) := fun d m g env uenv S I => by
  unfold eviP evi
  refine sat_plain_q (h d m g env uenv S I).1 fun g1 env1 S1 v u p br => ?_
  split
  · rename_i n
    cases br.int'
    simp only
    split
    · rename_i c
      exact ⟨g1, _, rfl, p.inv, rep_map (f := fun k => (k : Int)) _, loc_nil, .nil p (by omega), fun _ => p⟩
    · trivial
  · trivial
theorem okI_rrng1 {e : E} (h : OkX P pcf ucf e) : OkI P pcf ucf (.rrng1 e) := fun d m g env uenv S I => by
  unfold eviP evi
  refine sat_plain_q (h d m g env uenv S I).1 fun g1 env1 S1 v u p br => ?_
  split
  · rename_i n
    cases br.int'
    simp only
    split
    · rename_i c
      exact ⟨g1, _, rfl, p.inv, (rep_map (f := fun k => (k : Int)) _).rev, loc_nil, .nil p (by omega), fun _ => p⟩
    · trivial
  · trivial
theorem okI_rng2 {a b : E} (ha : OkX P pcf ucf a) (hb : OkX P pcf ucf b) : OkI P pcf ucf (.rng2 a b) := fun d m g env uenv S I => by
  unfold eviP evi
  refine sat_plain_q (ha d m g env uenv S I).1 fun g1 env1 S1 v u p br => ?_
  have s2 := (hb d m g1 env1 uenv S1 p.inv).1
  cases hr : evP P pcf false b env1 S1 with
  | stuck => trivial
  | exc c env2 S2 =>
    rw [hr] at s2
    obtain ⟨g2, e, p2⟩ := s2
    rw [e]
    exact ⟨g2, rfl, p.trans p2⟩
  | val w env2 S2 =>
    rw [hr] at s2
    obtain ⟨g2, y, e, p2, br2⟩ := s2
    rw [e]
    simp only [RP.bind, R.bind]
    split
    · rename_i i j
      cases br.int'
      cases br2.int'
      simp only
      split
      · exact ⟨g2, _, rfl, p2.inv, rep_map (f := fun k => i + (k : Int)) _, loc_nil, .nil (p.trans p2) (by omega), fun _ => p.trans p2⟩
      · trivial
    · trivial
theorem okI_enum {e : E} (h : OkX P pcf ucf e) : OkI P pcf ucf (.enum e) := fun d m g env uenv S I => by
  unfold eviP evi
  refine sat_bind_q (lnd_ok h I) fun g1 env1 S1 a b I1 br sf bk po => ?_
  obtain ⟨v, o⟩ := a
  cases v with
  | lst o vs =>
    obtain ⟨us, e1, r, e2⟩ := seq_items br (vs := vs) rfl
    obtain ⟨l, us', rfl, e3, _⟩ := br.lst'
    show SatQ d m g env uenv S (.val _ env1 S1) (match sqU g1.S (.ref l), U.ref l with
      | some q, .ref _ => _
      | _, _ => _)
    rw [e1]
    exact ⟨g1, _, rfl, I1, rep_enum r 0, watch_ok (M := m + 2) (m' := m + 1) (by omega) sf rfl e2, bk.le (by omega), fun h => po (toL h)⟩
  | tup vs => trivial
  | str vs => trivial
  | scr vs => trivial
  | non => trivial
  | bl b => trivial
  | int b => trivial
  | dct b c => trivial
  | obj b => trivial
  | fn b => trivial
  | tkn => trivial
theorem okI_rev {e : E} (h : OkX P pcf ucf e) : OkI P pcf ucf (.rev e) := fun d m g env uenv S I => by
  unfold eviP evi
  refine sat_bind_q (lnd_ok h I) fun g1 env1 S1 a b I1 br sf bk po => ?_
  cases hv : itemsP a.1 with
  | none => trivial
  | some vs =>
    obtain ⟨us, e1, r, e2⟩ := seq_items br hv
    simp only [e1]
    exact ⟨g1, _, rfl, I1, r.rev, watch_ok (M := m + 2) (m' := m + 1) (by omega) sf (by rw [hv]; rfl) e2, bk.le (by omega), fun h => po (toL h)⟩
theorem okI_chars {e : E} (h : OkX P pcf ucf e) : OkI P pcf ucf (.chars e) := fun d m g env uenv S I => by
  unfold eviP evi
  refine sat_bind_q (lnd_none_ok h I) fun g1 env1 S1 a b I1 br sf bk po => ?_
  obtain ⟨v, o⟩ := a
  have gen : ∀ vs, itemsP v = some vs → (∀ s, v ≠ .str s) → SatQ d m g env uenv S (.val ⟨vs, o.toList⟩ env1 S1) (ofO g1.S (sqS g1.S b)) := fun vs hv ns => by
    obtain ⟨us, e1, r, e2⟩ := seq_items br hv
    have e3 : sqS g1.S b = sqU g1.S b := by
      cases b <;> first | rfl | skip
      rename_i x
      cases br with
      | rep r => cases r; exact (ns _ rfl).elim
    rw [e3, e1]
    exact ⟨g1, _, rfl, I1, r, watch_ok (M := m + 2) (m' := m + 1) (by omega) sf (by rw [hv]; rfl) e2, bk.le (by omega), fun h => po (toL h)⟩
  cases v with
  | str s =>
    cases br.str'
    exact ⟨g1, _, rfl, I1, rep_chars _, loc_nil, bk.le (by omega), fun h => po (toL h)⟩
  | tup vs => exact gen vs rfl (fun s h => by cases h)
  | lst o vs => exact gen vs rfl (fun s h => by cases h)
  | scr vs => exact gen vs rfl (fun s h => by cases h)
  | non => trivial
  | bl b => trivial
  | int b => trivial
  | dct b c => trivial
  | obj b => trivial
  | fn b => trivial
  | tkn => trivial
theorem okI_zip {a b : E} (ha : OkX P pcf ucf a) (hb : OkX P pcf ucf b) : OkI P pcf ucf (.zip a b) := fun d m g env uenv S I => by
  unfold eviP evi
  refine sat_bind_q (lnd_ok ha I) fun g1 env1 S1 x ux I1 br sf bk po => ?_
  have s2 := lnd_ok (m := m + 1) hb I1
  cases hr : lnd (plc env1 S1 b) env1 S1 (evP P pcf true b env1 S1) with
  | stuck => trivial
  | exc c env2 S2 => trivial
  | val y env2 S2 =>
    rw [hr] at s2
    obtain ⟨g2, uy, e, I2, br2, sf2, bk2, kp, po2⟩ := s2
    rw [e]
    obtain ⟨vx, ox⟩ := x
    obtain ⟨vy, oy⟩ := y
    simp only [noXP, RP.bind, R.bind]
    split
    · rename_i o1 us o2 ws
      split
      · rename_i hl
        obtain ⟨l1, xs, rfl, a1, r1⟩ := Br.lst' br
        obtain ⟨l2, ys, rfl, a2, r2⟩ := Br.lst' br2
        have wx := sf l1 rfl rfl
        have sx := kp.2 l1 wx.1
        have a1' : g2.S[l1]? = some (.lst xs) := sx.2.trans a1
        simp only [sqU, a1', a2]
        rw [if_pos (by rw [r1.len, r2.len]; exact hl)]
        refine ⟨g2, _, rfl, I2, rep_zip (r1.mono kp.1) r2, fun p hp => ?_, Back.app bk bk2, fun h => ?_⟩
        · simp only [List.cons_append, List.nil_append, List.mem_cons, List.not_mem_nil, or_false] at hp
          rcases hp with hp | hp <;> subst hp
          · exact ⟨by simp only [itemsU, a1'], ⟨by unfold Safe; rw [sx.1]; exact wx.1.elim (fun h => .inl (h.le (Nat.le_refl _) (by omega))) .inr, fun k hk => by rw [sx.1]; exact wx.2 k hk⟩⟩
          · exact ⟨by simp only [itemsU, a2], (sf2 l2 rfl rfl).le (by omega) (by omega)⟩
        · have h : oy.toList ++ ox.toList = [] := h
          rw [List.append_eq_nil_iff] at h
          exact (po (toL h.2)).trans ((po2 (toL h.1)).le (by omega))
      · trivial
    · trivial
end
end PyM
set_option linter.all false
set_option autoImplicit false
set_option maxRecDepth 100000
set_option maxHeartbeats 1000000
/-! The pure machine keeps what the small machine does: names bound, comprehensions. -/
namespace PyM
open PyI
section
variable {d m M : Nat} {g g' g'' : Gh} {env env' env'' : VE} {uenv uenv' uenv'' : Env} {S S' S'' : OS} {α β γ δ : Type}
variable {P : Pg} {pcf : Nat → List Vl → OS → RC} {ucf : Nat → List U → Store → R U}
theorem Inv.setE (I : Inv d g env uenv S) {i : Nat} {v : Vl} {u : U} (s : Sl g (.e d i) v u) : Inv d g (env.set i (some v)) (uenv.set i (some u)) S where
  pl := fun p w h => by
    cases p with
    | var j =>
      have h : (env.set i (some v))[j]?.join = some w := h
      show ∃ x, (uenv.set i (some u))[j]?.join = some x ∧ _
      rw [List.getElem?_set] at h ⊢
      by_cases e : i = j
      · subst e
        rw [if_pos rfl] at h ⊢
        by_cases hl : i < env.length
        · rw [if_pos hl] at h
          rw [if_pos (by rw [← I.el]; exact hl)]
          cases h
          exact ⟨u, rfl, s⟩
        · rw [if_neg hl] at h; cases h
      · rw [if_neg e] at h ⊢
        exact I.pl (.var j) w h
    | fld o f => exact I.pl (.fld o f) w h
  el := by rw [List.length_set, List.length_set]; exact I.el
  ol := I.ol
  ob := I.ob
  gar := I.gar
theorem LS.setE {i : Nat} {v : Vl} {x : Option U} (h : kd v ≠ .bad) : LS g env uenv S g (env.set i (some v)) (uenv.set i x) S := fun p w e k => by
  cases p with
  | var j =>
    have e : (env.set i (some v))[j]?.join = some w := e
    show env[j]?.join = some w ∧ (uenv.set i x)[j]?.join = uenv[j]?.join
    rw [List.getElem?_set] at e ⊢
    by_cases hij : i = j
    · subst hij
      rw [if_pos rfl] at e
      split at e
      · cases e; exact (h k).elim
      · cases e
    · rw [if_neg hij] at e ⊢
      exact ⟨e, rfl⟩
  | fld o f => exact ⟨e, rfl⟩
theorem Inv.setN (I : Inv d g env uenv S) (i : Nat) (x : Option U) : Inv d g (env.set i none) (uenv.set i x) S where
  pl := fun p w h => by
    cases p with
    | var j =>
      have h : (env.set i none)[j]?.join = some w := h
      show ∃ y, (uenv.set i x)[j]?.join = some y ∧ _
      rw [List.getElem?_set] at h ⊢
      by_cases e : i = j
      · subst e
        rw [if_pos rfl] at h
        split at h <;> cases h
      · rw [if_neg e] at h ⊢
        exact I.pl (.var j) w h
    | fld o f => exact I.pl (.fld o f) w h
  el := by rw [List.length_set, List.length_set]; exact I.el
  ol := I.ol
  ob := I.ob
  gar := I.gar
theorem LS.setN {i : Nat} {x : Option U} : LS g env uenv S g (env.set i none) (uenv.set i x) S := fun p w e k => by
  cases p with
  | var j =>
    have e : (env.set i none)[j]?.join = some w := e
    show env[j]?.join = some w ∧ (uenv.set i x)[j]?.join = uenv[j]?.join
    rw [List.getElem?_set] at e ⊢
    by_cases hij : i = j
    · subst hij
      rw [if_pos rfl] at e
      split at e <;> cases e
    · rw [if_neg hij] at e ⊢
      exact ⟨e, rfl⟩
  | fld o f => exact ⟨e, rfl⟩
/-- a name gets a temporary -/
theorem asg_nm (I : Inv d g env uenv S) {v : Vl} {u : U} (t : Tm2 m g v u) (i : Nat) : ∃ g1, g1.S = g.S ∧ g1.om = g.om ∧ Post d m g env uenv S g1 (env.set i (some v)) (uenv.set i (some u)) S := by
  cases hk : kd v with
  | bad => exact (t.2 hk).elim
  | flat => exact ⟨g, rfl, rfl, I.setE (.rep (t.1.of_flat hk)), .refl g, .setE t.2⟩
  | own =>
    obtain ⟨l, rfl, hl, cc, hc⟩ := t.1.own_at hk
    have ch := g.up_chg l (.e d i)
    have n : g.κ l ≠ .fro := by rw [hl]; intro h; cases h
    have rl : Relab d g (g.up l (.e d i)) := by
      refine ⟨rfl, rfl, fun x e => ?_, fun x e => ?_, fun x p e => ?_, fun x o e => ?_, fun x e => ?_⟩ <;> rw [g.up_ne _ (fun e2 => by rw [e2, hl] at e; first | (cases e; done) | (cases p <;> cases e))] <;> exact e
    have s : Sl (g.up l (.e d i)) (.e d i) v (.ref l) := t.1.kindTo rl fun x hx _ => by cases hx; exact g.up_at l _
    exact ⟨g.up l (.e d i), rfl, rfl, (I.relab rl).setE s, ch.ext n (by rw [hl]; exact not_prot_t) (by rw [g.up_at]; exact fun h => Nat.lt_irrefl _ h), (LS.relab rl).trans (.setE t.2)⟩
theorem bind_rep (I : Inv d g env uenv S) {t : Tg} {v : Vl} {u : U} {env1 : VE} (r : Rep g v u) (h : bindP t v env = some env1) : ∃ uenv1, bindT t u uenv = some uenv1 ∧ Inv d g env1 uenv1 S ∧ LS g env uenv S g env1 uenv1 S ∧ (∀ j, j ∉ tgN t → uenv1[j]? = uenv[j]? ∧ env1[j]? = env[j]?) ∧ uenv1.length = uenv.length := by
  cases t with
  | nm i =>
    cases h
    exact ⟨uenv.set i (some u), rfl, I.setE (.rep r), .setE (by rw [r.flat]; intro h; cases h), fun j hj => by
      have : i ≠ j := fun e => hj (by subst e; exact List.mem_singleton.mpr rfl)
      rw [List.getElem?_set, List.getElem?_set, if_neg this, if_neg this]; exact ⟨rfl, rfl⟩, by simp⟩
  | tp ts =>
    cases v with
    | tup vs =>
      cases r with
      | @tup _ us r =>
        simp only [bindP] at h
        split at h
        · rename_i hl
          cases h
          refine ⟨(ts.zip us).foldl (fun e p => e.set p.1 (some p.2)) uenv, by simp only [bindT]; rw [if_pos (by rw [r.len]; exact hl)], ?_⟩
          have go : ∀ (ts : List Nat) (vs : List Vl) (us : List U), RepL g vs us → ∀ (env : VE) (uenv : Env), Inv d g env uenv S → Inv d g ((ts.zip vs).foldl (fun e p => e.set p.1 (some p.2)) env) ((ts.zip us).foldl (fun e p => e.set p.1 (some p.2)) uenv) S ∧ LS g env uenv S g ((ts.zip vs).foldl (fun e p => e.set p.1 (some p.2)) env) ((ts.zip us).foldl (fun e p => e.set p.1 (some p.2)) uenv) S ∧ (∀ j, j ∉ ts → ((ts.zip us).foldl (fun e p => e.set p.1 (some p.2)) uenv)[j]? = uenv[j]? ∧ ((ts.zip vs).foldl (fun e p => e.set p.1 (some p.2)) env)[j]? = env[j]?) ∧ ((ts.zip us).foldl (fun e p => e.set p.1 (some p.2)) uenv).length = uenv.length := by
            intro ts
            induction ts with
            | nil => intro vs us r env uenv I; exact ⟨I, .refl, fun _ _ => ⟨rfl, rfl⟩, rfl⟩
            | cons i ts ih =>
              intro vs us r env uenv I
              cases r with
              | nil => exact ⟨I, .refl, fun _ _ => ⟨rfl, rfl⟩, rfl⟩
              | @cons v u vs us a r =>
                obtain ⟨i1, i2, i3, i4⟩ := ih vs us r (env.set i (some v)) (uenv.set i (some u)) (I.setE (.rep a))
                refine ⟨i1, (LS.setE (by rw [a.flat]; intro h; cases h)).trans i2, fun j hj => ?_, by rw [← List.length_set (as := uenv) (i := i) (a := some u)]; exact i4⟩
                rw [List.mem_cons, not_or] at hj
                obtain ⟨b1, b2⟩ := i3 j hj.2
                refine ⟨b1.trans ?_, b2.trans ?_⟩
                · rw [List.getElem?_set, if_neg (fun e => hj.1 e.symm)]
                · rw [List.getElem?_set, if_neg (fun e => hj.1 e.symm)]
          exact go ts vs us r env uenv I
        · cases h
    | non => cases h
    | bl b => cases h
    | int b => cases h
    | str b => cases h
    | lst a b => cases h
    | dct a b => cases h
    | obj b => cases h
    | fn b => cases h
    | tkn => cases h
    | scr b => cases h
theorem wipeP_at (own : List Nat) (i : Nat) : (wipeP env own)[i]?.join = if i ∈ own then none else env[i]?.join := by
  induction own with
  | nil => simp [wipeP]
  | cons v vs ih =>
    show ((wipeP env vs).set v none)[i]?.join = _
    rw [List.getElem?_set]
    by_cases e : v = i
    · subst e
      rw [if_pos rfl, if_pos (List.mem_cons_self)]
      split <;> rfl
    · rw [if_neg e, ih]
      have : i ∈ v :: vs ↔ i ∈ vs := by
        rw [List.mem_cons]
        exact ⟨fun h => h.resolve_left fun h => e h.symm, .inr⟩
      simp only [this]
theorem wipeU_at (own : List Nat) (i : Nat) (h : i ∉ own) : (wipeU uenv own)[i]? = uenv[i]? := by
  induction own with
  | nil => rfl
  | cons v vs ih =>
    rw [List.mem_cons, not_or] at h
    show ((wipeU uenv vs).set v none)[i]? = _
    rw [List.getElem?_set, if_neg (fun e => h.1 e.symm), ih h.2]
theorem wipeU_len (own : List Nat) : (wipeU uenv own).length = uenv.length := by
  induction own with
  | nil => rfl
  | cons v vs ih => show ((wipeU uenv vs).set v none).length = _; rw [List.length_set, ih]
theorem wipeP_len (own : List Nat) : (wipeP env own).length = env.length := by
  induction own with
  | nil => rfl
  | cons v vs ih => show ((wipeP env vs).set v none).length = _; rw [List.length_set, ih]
theorem wipeU_in (own : List Nat) (i : Nat) (h : i ∈ own) (hl : i < uenv.length) : (wipeU uenv own)[i]? = some none := by
  induction own with
  | nil => cases h
  | cons v vs ih =>
    show ((wipeU uenv vs).set v none)[i]? = _
    rw [List.getElem?_set]
    by_cases e : v = i
    · subst e; rw [if_pos rfl, if_pos (by rw [wipeU_len]; exact hl)]
    · rw [if_neg e]
      exact ih ((List.mem_cons.mp h).resolve_left fun h => e h.symm)
theorem wipeU_same {own : List Nat} (hl : uenv'.length = uenv.length) (h : ∀ j, j ∉ own → uenv'[j]? = uenv[j]?) : wipeU uenv' own = wipeU uenv own := by
  apply List.ext_getElem?
  intro i
  by_cases hi : i ∈ own
  · by_cases hl2 : i < uenv.length
    · rw [wipeU_in own i hi hl2, wipeU_in own i hi (by omega)]
    · rw [List.getElem?_eq_none (by rw [wipeU_len]; omega), List.getElem?_eq_none (by rw [wipeU_len]; omega)]
  · rw [wipeU_at own i hi, wipeU_at own i hi, h i hi]
theorem Inv.wipe (I : Inv d g env uenv S) (own : List Nat) : Inv d g (wipeP env own) (wipeU uenv own) S where
  pl := fun p w h => by
    cases p with
    | var j =>
      have h : (wipeP env own)[j]?.join = some w := h
      rw [wipeP_at] at h
      split at h
      · cases h
      · rename_i hj
        obtain ⟨u, hu, s⟩ := I.pl (.var j) w h
        exact ⟨u, by show (wipeU uenv own)[j]?.join = _; rw [wipeU_at own j hj]; exact hu, s⟩
    | fld o f => exact I.pl (.fld o f) w h
  el := by rw [wipeP_len, wipeU_len]; exact I.el
  ol := I.ol
  ob := I.ob
  gar := I.gar
theorem LS.wipe (h : LS g env uenv S g' env' uenv' S') (own : List Nat) : LS g (wipeP env own) (wipeU uenv own) S g' (wipeP env' own) (wipeU uenv' own) S' := fun p w e k => by
  cases p with
  | var j =>
    have e : (wipeP env' own)[j]?.join = some w := e
    rw [wipeP_at] at e
    split at e
    · cases e
    · rename_i hj
      obtain ⟨a, b⟩ := h (.var j) w e k
      refine ⟨?_, ?_⟩
      · show (wipeP env own)[j]?.join = _; rw [wipeP_at, if_neg hj]; exact a
      · show (wipeU uenv' own)[j]?.join = (wipeU uenv own)[j]?.join
        rw [wipeU_at own j hj, wipeU_at own j hj]; exact b
  | fld o f => exact h (.fld o f) w e k
/-- all but one list, that grows -/
structure ExtE (d M l0 : Nat) (g g' : Gh) : Prop where
  fro : Fro g g'
  keep : ∀ l, l ≠ l0 → prot d M (g.κ l) → g'.κ l = g.κ l ∧ g'.S[l]? = g.S[l]?
  back : ∀ l, l ≠ l0 → prot d M (g'.κ l) → g'.κ l = g.κ l
  len : g.S.length ≤ g'.S.length
theorem Ext.e {l0 : Nat} (h : Ext d M g g') : ExtE d M l0 g g' := ⟨h.fro, fun l _ => h.keep l, fun l _ => h.back l, h.len⟩
theorem ExtE.trans {l0 : Nat} (a : ExtE d M l0 g g') (b : ExtE d M l0 g' g'') : ExtE d M l0 g g'' := by
  refine ⟨a.fro.trans b.fro, fun l n h => ?_, fun l n h => ?_, Nat.le_trans a.len b.len⟩
  · have h1 := a.keep l n h
    have h2 := b.keep l n (by rw [h1.1]; exact h)
    exact ⟨h2.1.trans h1.1, h2.2.trans h1.2⟩
  · have h1 := b.back l n h
    rw [h1] at h
    exact h1.trans (a.back l n h)
theorem ExtE.le {l0 M' : Nat} (h : ExtE d M' l0 g g') (e : M ≤ M') : ExtE d M l0 g g' := ⟨h.fro, fun l n p => h.keep l n (p.le (Nat.le_refl _) e), fun l n p => h.back l n (p.le (Nat.le_refl _) e), h.len⟩
theorem ExtE.ext {l0 : Nat} (h : ExtE d M l0 g g') (a : ¬ prot d M (g.κ l0)) (b : ¬ prot d M (g'.κ l0)) : Ext d M g g' := ⟨h.fro, fun l p => h.keep l (fun e => a (e ▸ p)) p, fun l p => h.back l (fun e => b (e ▸ p)) p, h.len⟩
/-- behind a turn of a comprehension -/
structure Grow (d M l0 M0 : Nat) (g : Gh) (env : VE) (uenv : Env) (S : OS) (acc' : List Vl) (g' : Gh) (env' : VE) (uenv' : Env) (S' : OS) : Prop where
  inv : Inv d g' env' uenv' S'
  ext : ExtE d M l0 g g'
  ls : LS g env uenv S g' env' uenv' S'
  k0 : g'.κ l0 = .t M0
  cell : ∃ uacc, g'.S[l0]? = some (.lst uacc) ∧ RepL g' acc' uacc
def BodyOk (d M l0 M0 : Nat) (b : List Vl → VE → OS → RP (List Vl)) (ub : Env → Store → R Unit) : Prop := ∀ (g : Gh) (env : VE) (uenv : Env) (S : OS) (acc : List Vl) (uacc : List U), Inv d g env uenv S → g.κ l0 = .t M0 → g.S[l0]? = some (.lst uacc) → RepL g acc uacc → match b acc env S with
  | .val acc' env' S' => ∃ g', ub uenv g.S = .val () g'.S ∧ Grow d M l0 M0 g env uenv S acc' g' env' uenv S'
  | _ => True
theorem okW_of {w : List (Nat × List U)} {St : Store} (h : ∀ p ∈ w, itemsU St (.ref p.1) = some p.2) : okW w St = true := by
  unfold okW
  rw [List.all_eq_true]
  intro p hp
  simpa using h p hp
theorem grow_loop {l0 M0 : Nat} {t : Tg} {own : List Nat} {b : List Vl → VE → OS → RP (List Vl)} {ub : Env → Store → R Unit} (hb : BodyOk d M l0 M0 b ub) (ht : ∀ i ∈ tgN t, i ∈ own) {w : List (Nat × List U)} (hw0 : ∀ p ∈ w, p.1 ≠ l0) {uenv : Env} : ∀ (items : List Vl) (uitems : List U) (acc : List Vl) (uacc : List U) (g : Gh) (env : VE) (S : OS),
    RepL g items uitems → Inv d g (wipeP env own) (wipeU uenv own) S → g.κ l0 = .t M0 → g.S[l0]? = some (.lst uacc) → RepL g acc uacc → (∀ p ∈ w, itemsU g.S (.ref p.1) = some p.2 ∧ Safe d M g p.1) →
    match loopGP t own b items acc env S with
    | .val acc' env' S' => ∃ g', loopG t own ub w uenv uitems g.S = .val () g'.S ∧ Grow d M l0 M0 g (wipeP env own) (wipeU uenv own) S acc' g' (wipeP env' own) (wipeU uenv own) S'
    | _ => True
  | [], uitems, acc, uacc, g, env, S, ri, I, k0, hc, ra, hw => by
    cases ri
    unfold loopGP loopG
    refine ⟨g, ?_, I, (Ext.refl g).e, .refl, k0, uacc, hc, ra⟩
    rw [okW_of fun p hp => (hw p hp).1]
    rfl
  | v :: items, uitems, acc, uacc, g, env, S, ri, I, k0, hc, ra, hw => by
    cases ri with
    | @cons _ u _ us rv ri =>
      unfold loopGP loopG
      rw [okW_of fun p hp => (hw p hp).1]
      simp only [if_true]
      cases hbd : bindP t v (wipeP env own) with
      | none => trivial
      | some env1 =>
        obtain ⟨uenv1, e1, I1, ls1, ag1, len1⟩ := bind_rep I rv hbd
        rw [e1]
        simp only
        have B := hb g env1 uenv1 S acc uacc I1 k0 hc ra
        cases hr : b acc env1 S with
        | stuck => trivial
        | exc c env2 S2 => trivial
        | val acc2 env2 S2 =>
          rw [hr] at B
          obtain ⟨g2, e2, G⟩ := B
          rw [e2]
          obtain ⟨uacc2, hc2, ra2⟩ := G.cell
          have same : wipeU uenv1 own = wipeU uenv own := by
            rw [wipeU_same (uenv := wipeU uenv own) len1 fun j hj => (ag1 j fun h => hj (ht j h)).1, wipeU_same (uenv := uenv) (wipeU_len own) fun j hj => wipeU_at own j hj]
          have I2 : Inv d g2 (wipeP env2 own) (wipeU uenv own) S2 := same ▸ G.inv.wipe own
          have lsA : LS g (wipeP env own) (wipeU uenv own) S g2 (wipeP env2 own) (wipeU uenv own) S2 := fun p w e k => by
            have l2 := (ls1.trans G.ls)
            cases p with
            | var j =>
              have e : (wipeP env2 own)[j]?.join = some w := e
              rw [wipeP_at] at e
              split at e
              · cases e
              · rename_i hj
                obtain ⟨a, b⟩ := l2 (.var j) w e k
                refine ⟨a, ?_⟩
                show (wipeU uenv own)[j]?.join = (wipeU uenv own)[j]?.join
                rfl
            | fld o f => exact l2 (.fld o f) w e k
          have hw2 : ∀ p ∈ w, itemsU g2.S (.ref p.1) = some p.2 ∧ Safe d M g2 p.1 := fun p hp => by
            obtain ⟨a, s⟩ := hw p hp
            have : g2.S[p.1]? = g.S[p.1]? ∧ Safe d M g2 p.1 := by
              rcases s with s | s
              · obtain ⟨x, y⟩ := G.ext.keep p.1 (hw0 p hp) s
                exact ⟨y, .inl (by rw [x]; exact s)⟩
              · obtain ⟨x, y⟩ := G.ext.fro.fro p.1 s
                exact ⟨y, .inr x⟩
            exact ⟨by rw [items_same this.1]; exact a, this.2⟩
          have ih := grow_loop hb ht hw0 (uenv := uenv) items us acc2 uacc2 g2 env2 S2 (ri.mono G.ext.fro) I2 G.k0 hc2 ra2 hw2
          simp only [RP.bind, R.bind]
          cases hr2 : loopGP t own b items acc2 env2 S2 with
          | stuck => trivial
          | exc c env3 S3 => trivial
          | val acc3 env3 S3 =>
            rw [hr2] at ih
            obtain ⟨g3, e3, G3⟩ := ih
            exact ⟨g3, e3, G3.inv, G.ext.trans G3.ext, lsA.trans G3.ls, G3.k0, G3.cell⟩
/-- a simple comprehension is a double one -/
theorem loopCP_G (t : Tg) (own : List Nat) (c : VE → OS → RP Bool) (e : VE → OS → RP Vl) : ∀ (items acc : List Vl) (env : VE) (S : OS), loopCP t own c e items acc env S = loopGP t own (fun acc env S => (c env S).bind fun k env S => if k then (e env S).bind fun y env S => if acc.length < LINE then .val (acc ++ [frz y]) env S else .stuck else .val acc env S) items acc env S
  | [], acc, env, S => rfl
  | v :: items, acc, env, S => by
    unfold loopCP loopGP
    cases bindP t v (wipeP env own) with
    | none => rfl
    | some env1 =>
      simp only
      cases c env1 S with
      | stuck => rfl
      | exc x env2 S2 => rfl
      | val k env2 S2 =>
        simp only [RP.bind]
        cases k with
        | false => exact loopCP_G t own c e items acc env2 S2
        | true =>
          simp only [if_true]
          cases e env2 S2 with
          | stuck => rfl
          | exc x env3 S3 => rfl
          | val y env3 S3 =>
            simp only [RP.bind]
            split
            · exact loopCP_G t own c e items _ env3 S3
            · rfl
theorem loopC_G (t : Tg) (own : List Nat) (c : Env → Store → R Bool) (e : Env → Store → R U) (l : Nat) (w : List (Nat × List U)) (env : Env) : ∀ (items : List U) (S : Store), loopC t own c e l w env items S = loopG t own (fun env S => (c env S).bind fun k S => if k then (e env S).bind fun y S2 => match S2[l]? with
    | some (.lst acc) => if acc.length < LINE then .val () (S2.set l (.lst (acc ++ [y]))) else .stuck
    | _ => .stuck else .val () S) w env items S
  | [], S => rfl
  | v :: items, S => by
    unfold loopC loopG
    split
    · cases bindT t v (wipeU env own) with
      | none => rfl
      | some env1 =>
        simp only
        cases c env1 S with
        | stuck => rfl
        | exc x d S2 => rfl
        | val k S2 =>
          simp only [R.bind]
          cases k with
          | false => exact loopC_G t own c e l w env items S2
          | true =>
            simp only [if_true]
            cases e env1 S2 with
            | stuck => rfl
            | exc x d S3 => rfl
            | val y S3 =>
              show (match S3[l]? with
                | some (.lst acc) => if acc.length < LINE then loopC t own c e l w env items (S3.set l (.lst (acc ++ [y]))) else .stuck
                | _ => .stuck) = (match S3[l]? with
                | some (.lst acc) => if acc.length < LINE then R.val () (S3.set l (.lst (acc ++ [y]))) else .stuck
                | _ => .stuck).bind _
              cases hS : S3[l]? with
              | none => rfl
              | some cc =>
                cases cc <;> first | rfl | skip
                rename_i us
                simp only
                by_cases h : us.length < LINE
                · rw [if_pos h, if_pos h]
                  exact loopC_G t own c e l w env items _
                · rw [if_neg h, if_neg h]; rfl
    · rfl
/-- a temporary is frozen -/
theorem freeze (I : Inv d g env uenv S) {v : Vl} {u : U} (t : Tm2 m g v u) : ∃ g2, g2.S = g.S ∧ g2.om = g.om ∧ Post d m g env uenv S g2 env uenv S ∧ Rep g2 (frz v) u ∧ ∀ x, g.κ x ≠ .t m → g2.κ x = g.κ x := by
  cases hk : kd v with
  | bad => exact (t.2 hk).elim
  | flat => exact ⟨g, rfl, rfl, I.post, by rw [frz_flat hk]; exact t.1.of_flat hk, fun _ _ => rfl⟩
  | own =>
    obtain ⟨l, rfl, hl, cc, hc⟩ := t.1.own_at hk
    have ch := g.up_chg l .fro
    have n : g.κ l ≠ .fro := by rw [hl]; intro h; cases h
    have rl : Relab d g (g.up l .fro) := by
      refine ⟨rfl, rfl, fun x e => ?_, fun x e => ?_, fun x p e => ?_, fun x o e => ?_, fun x e => ?_⟩ <;> rw [g.up_ne _ (fun e2 => by rw [e2, hl] at e; first | (cases e; done) | (cases p <;> cases e))] <;> exact e
    refine ⟨g.up l .fro, rfl, rfl, ⟨I.relab rl, ch.ext n (by rw [hl]; exact not_prot_t) (by rw [g.up_at]; exact fun h => h), .relab rl⟩, ?_, fun x hx => g.up_ne _ fun e => hx (e ▸ hl)⟩
    cases t.1 with
    | rep r => rw [r.flat] at hk; cases hk
    | own a b c => exact .lst (g.up_at l _) b (c.mono (ch.fro n))
    | ownD a b c => exact .dct (g.up_at l _) b (c.mono (ch.fro n))
    | lent => cases hk
    | lentD => cases hk
    | scr => cases hk
    | tkn => cases hk
/-- what nobody names changes -/
theorem Inv.cell {l : Nat} (I : Inv d g env uenv S) (h1 : ∀ p, g.κ l ≠ kindP d p) (h2 : g.κ l ≠ .ext) (h3 : g.κ l ≠ .fro) (h4 : ∀ o, g.κ l ≠ .o o) (c : Cell) : Inv d (g.cell l c) env uenv S ∧ LS g env uenv S (g.cell l c) env uenv S := by
  have ch := g.cell_chg l c
  have f := ch.fro h3
  refine ⟨⟨fun p v e => ?_, I.el, I.ol, fun o c' fs e => ?_, fun x e => I.gar x (by rw [ch.len] at e; exact e)⟩, fun p v e k => ⟨e, ch.getU I h4 (getP_lt e)⟩⟩
  · obtain ⟨u, hu, s⟩ := I.pl p v e
    refine ⟨u, (ch.getU I h4 (getP_lt e)).trans hu, s.mono f fun x _ k => ch.ne x fun e2 => ?_⟩
    subst e2
    exact k.elim (h1 p) h2
  · obtain ⟨l', ufs, a1, a2, a3, a4⟩ := I.ob o c' fs e
    have := ch.ne l' (fun e2 => h4 o (e2 ▸ a2))
    exact ⟨l', ufs, a1, this.1.trans a2, this.2.trans a3, a4⟩
/-- a turn of a simple comprehension -/
theorem body_ok {l0 M0 : Nat} (hM : M0 < M) {c : VE → OS → RP Bool} {uc : Env → Store → R Bool} {e : VE → OS → RP Vl} {ue : Env → Store → R U}
    (hc : ∀ g env uenv S, Inv d g env uenv S → Sat d M g env uenv S (fun _ a b => a = b) (c env S) (uc uenv g.S)) (he : ∀ g env uenv S, Inv d g env uenv S → Sat d M g env uenv S (Tm2 M) (e env S) (ue uenv g.S)) :
    BodyOk d M l0 M0 (fun acc env S => (c env S).bind fun k env S => if k then (e env S).bind fun y env S => if acc.length < LINE then .val (acc ++ [frz y]) env S else .stuck else .val acc env S) (fun env S => (uc env S).bind fun k S => if k then (ue env S).bind fun y S2 => match S2[l0]? with
      | some (.lst acc) => if acc.length < LINE then .val () (S2.set l0 (.lst (acc ++ [y]))) else .stuck
      | _ => .stuck else .val () S) := by
  intro g env uenv S acc uacc I k0 h0 ra
  have pk : prot d M (.t M0) := hM
  dsimp only
  have s1 := hc g env uenv S I
  cases hr : c env S with
  | stuck => trivial
  | exc x env1 S1 => trivial
  | val k env1 S1 =>
    rw [hr] at s1
    obtain ⟨g1, b, e1, P1, rfl⟩ := s1
    have z1 := P1.ext.keep l0 (by rw [k0]; exact pk)
    simp only [RP.bind, e1, R.bind]
    cases k with
    | false => exact ⟨g1, rfl, P1.inv, P1.ext.e, P1.ls, z1.1.trans k0, uacc, z1.2.trans h0, ra.mono P1.ext.fro⟩
    | true =>
      simp only [if_true]
      have s2 := he g1 env1 uenv S1 P1.inv
      cases hr2 : e env1 S1 with
      | stuck => trivial
      | exc x env2 S2 => trivial
      | val y env2 S2 =>
        rw [hr2] at s2
        obtain ⟨g2, u, e2, P2, t2⟩ := s2
        simp only [e2]
        obtain ⟨g3, f1, f2, P3, r3, f3⟩ := freeze P2.inv t2
        have z2 := P2.ext.keep l0 (by rw [z1.1, k0]; exact pk)
        have z3 := P3.ext.keep l0 (by rw [z2.1, z1.1, k0]; exact pk)
        have hk3 : g3.κ l0 = .t M0 := z3.1.trans (z2.1.trans (z1.1.trans k0))
        have hc3 : g3.S[l0]? = some (.lst uacc) := z3.2.trans (z2.2.trans (z1.2.trans h0))
        rw [f1] at hc3
        rw [hc3]
        simp only
        by_cases hl : acc.length < LINE
        · rw [if_pos hl]
          have ral := (ra.mono ((P1.ext.fro.trans P2.ext.fro).trans P3.ext.fro))
          simp only [if_pos (show uacc.length < LINE by rw [ra.len]; exact hl)]
          obtain ⟨I4, ls4⟩ := P3.inv.cell (l := l0) (fun p => by rw [hk3]; cases p <;> intro h <;> cases h) (by rw [hk3]; intro h; cases h) (by rw [hk3]; intro h; cases h) (fun o => by rw [hk3]; intro h; cases h) (.lst (uacc ++ [u]))
          have ch := g3.cell_chg l0 (.lst (uacc ++ [u]))
          have f4 := ch.fro (by rw [hk3]; intro h; cases h)
          have E3 := (P1.ext.trans P2.ext).trans P3.ext
          refine ⟨g3.cell l0 (.lst (uacc ++ [u])), ?_, I4, ?_, ((P1.ls.trans P2.ls).trans P3.ls).trans ls4, hk3, uacc ++ [u], ?_, (ral.app (.cons r3 .nil)).mono f4⟩
          · show R.val () (g2.S.set l0 _) = R.val () (g3.S.set l0 _)
            rw [f1]
          · refine (E3.e).trans ⟨f4, fun l n p => ch.ne l n, fun l n p => (ch.ne l n).1, by rw [ch.len]; exact Nat.le_refl _⟩
          · show (g3.S.set l0 _)[l0]? = _
            rw [List.getElem?_set, if_pos rfl, if_pos (by rw [f1]; exact (List.getElem?_eq_some_iff.mp hc3).1)]
        · rw [if_neg hl]; trivial
end
end PyM
set_option linter.all false
set_option autoImplicit false
set_option maxRecDepth 100000
set_option maxHeartbeats 1000000
/-! The pure machine keeps what the small machine does: expressions. -/
namespace PyM
open PyI
section
variable {d m M : Nat} {g g' g'' : Gh} {env env' env'' : VE} {uenv uenv' uenv'' : Env} {S S' S'' : OS} {α β γ δ : Type}
variable {P : Pg} {pcf : Nat → List Vl → OS → RC} {ucf : Nat → List U → Store → R U}
theorem backP_len (old : VE) (own : List Nat) : (backP old env own).length = env.length := by
  induction own with
  | nil => rfl
  | cons v vs ih =>
    unfold backP
    split
    · rw [List.length_set, ih]
    · exact ih
theorem backP_at {old : VE} (hl : env.length = old.length) (own : List Nat) (i : Nat) : (backP old env own)[i]?.join = if i ∈ own then old[i]?.join else env[i]?.join := by
  induction own with
  | nil => simp [backP]
  | cons v vs ih =>
    unfold backP
    cases ho : old[v]? with
    | some o =>
      simp only
      rw [List.getElem?_set]
      by_cases e : v = i
      · subst e
        rw [if_pos rfl, if_pos List.mem_cons_self, if_pos (by rw [backP_len, hl]; exact (List.getElem?_eq_some_iff.mp ho).1), ho]
      · rw [if_neg e, ih]
        have : i ∈ v :: vs ↔ i ∈ vs := by
          rw [List.mem_cons]
          exact ⟨fun h => h.resolve_left fun h => e h.symm, .inr⟩
        simp only [this]
    | none =>
      simp only
      rw [ih]
      by_cases e : v = i
      · subst e
        rw [if_pos List.mem_cons_self, ho]
        by_cases hv : v ∈ vs
        · rw [if_pos hv]
        · rw [if_neg hv]
          have := List.getElem?_eq_none_iff.mp ho
          rw [List.getElem?_eq_none (by omega)]
      · have : i ∈ v :: vs ↔ i ∈ vs := by
          rw [List.mem_cons]
          exact ⟨fun h => h.resolve_left fun h => e h.symm, .inr⟩
        simp only [this]
theorem unlends_cases (ps : List Pl) (env : VE) (S : OS) : unlends ps env S = .stuck ∨ ∃ env' S', unlends ps env S = .val () env' S' := by
  induction ps generalizing env S with
  | nil => exact .inr ⟨_, _, rfl⟩
  | cons p ps ih =>
    show (unlend p env S).bind _ = _ ∨ _
    rcases unlend_cases p env S with h | ⟨env1, S1, h⟩
    · rw [h]; exact .inl rfl
    · show _ ∨ ∃ env' S', (unlend p env S).bind _ = _
      rw [h]; exact ih env1 S1
theorem freeOf_of {t : Tg} {own : List Nat} (h : freeOf env t own = true) : (∀ i ∈ tgN t, i ∈ own) ∧ ∀ i ∈ own, ∀ v, env[i]?.join = some v → kd v = .flat := by
  unfold freeOf at h
  obtain ⟨a, b⟩ := q2 h
  refine ⟨fun i hi => by simpa using List.all_eq_true.mp a i hi, fun i hi v hv => ?_⟩
  have := List.all_eq_true.mp b i hi
  rw [hv] at this
  simp only at this
  cases hk : kd v <;> rw [hk] at this <;> first | rfl | cases this
/-- names of a comprehension get back what they were -/
theorem unwipe {own : List Nat} {env0 env1 : VE} {S0 S1 : OS} (I0 : Inv d g env0 uenv S0) (hf : ∀ i ∈ own, ∀ v, env0[i]?.join = some v → kd v = .flat) (f : Fro g g') (I1 : Inv d g' (wipeP env1 own) (wipeU uenv own) S1) (ls : LS g (wipeP env0 own) (wipeU uenv own) S0 g' (wipeP env1 own) (wipeU uenv own) S1) : Inv d g' (backP env0 env1 own) uenv S1 ∧ LS g env0 uenv S0 g' (backP env0 env1 own) uenv S1 := by
  have hl : env1.length = env0.length := by
    have := I1.el
    rw [wipeP_len, wipeU_len] at this
    rw [this, I0.el]
  refine ⟨⟨fun p v h => ?_, by rw [backP_len, hl]; exact I0.el, I1.ol, I1.ob, I1.gar⟩, fun p v h k => ?_⟩
  · cases p with
    | var j =>
      have h : (backP env0 env1 own)[j]?.join = some v := h
      rw [backP_at hl] at h
      split at h
      · rename_i hj
        obtain ⟨u, hu, s⟩ := I0.pl (.var j) v h
        exact ⟨u, hu, .rep ((s.of_flat (hf j hj v h)).mono f)⟩
      · rename_i hj
        obtain ⟨u, hu, s⟩ := I1.pl (.var j) v (by show (wipeP env1 own)[j]?.join = _; rw [wipeP_at, if_neg hj]; exact h)
        refine ⟨u, ?_, s⟩
        have hu : (wipeU uenv own)[j]?.join = some u := hu
        rw [wipeU_at own j hj] at hu
        exact hu
    | fld o f => exact I1.pl (.fld o f) v h
  · cases p with
    | var j =>
      have h : (backP env0 env1 own)[j]?.join = some v := h
      rw [backP_at hl] at h
      split at h
      · rename_i hj
        exact absurd k (by rw [hf j hj v h]; intro h; cases h)
      · rename_i hj
        obtain ⟨a, b⟩ := ls (.var j) v (by show (wipeP env1 own)[j]?.join = _; rw [wipeP_at, if_neg hj]; exact h) k
        have a : (wipeP env0 own)[j]?.join = some v := a
        rw [wipeP_at, if_neg hj] at a
        exact ⟨a, rfl⟩
    | fld o f => exact ls (.fld o f) v h k
theorem comp_gen {own : List Nat} {t : Tg} {it : It} {b : List Vl → VE → OS → RP (List Vl)} {ub : Nat → Env → Store → R Unit} (hit : OkI P pcf ucf it) (hb : ∀ l0, BodyOk d (m + 3) l0 (m + 2) b (ub l0)) (I : Inv d g env uenv S) :
    Sat d m g env uenv S (Tm2 m) ((eviP P pcf it env S).bind fun q env0 S => if freeOf env0 t own then (noXP (loopGP t own b q.items [] env0 S)).bind fun us env1 S => (unlends q.back (backP env0 env1 own) S).bind fun _ env S => .val (.lst .own us) env S else .stuck)
      ((evi P ucf it uenv g.S).bind fun q S => (noX (loopG t own (ub S.length) q.watch uenv q.items (S ++ [.lst []]))).bind fun _ S1 => .val (.ref S.length) S1) := by
  have s := hit d m g env uenv S I
  cases hr : eviP P pcf it env S with
  | stuck => trivial
  | exc c env1 S1 => rw [hr] at s; obtain ⟨g1, e, p⟩ := s; rw [e]; exact ⟨g1, rfl, p⟩
  | val q env0 S0 =>
    rw [hr] at s
    obtain ⟨g1, qs, e, I1, ri, hw, bk, _⟩ := s
    rw [e]
    simp only [RP.bind, R.bind]
    cases hf : freeOf env0 t own with
    | false => trivial
    | true =>
      simp only [if_true]
      obtain ⟨ht, hflat⟩ := freeOf_of hf
      have P2 := I1.newP (m := m + 2) (.lst []) (k := .t (m + 2)) not_prot_t
      have kn : (g1.new (.lst []) (.t (m + 2))).κ g1.S.length = .t (m + 2) := new_kind _ _ _
      have L := grow_loop (hb g1.S.length) ht (w := qs.watch) (fun p hp e => by
        have := (hw p hp).1
        rw [e] at this
        simp only [itemsU, List.getElem?_eq_none (Nat.le_refl _)] at this
        cases this) (uenv := uenv) q.items qs.items [] [] (g1.new (.lst []) (.t (m + 2))) env0 S0 (ri.mono P2.ext.fro) (P2.inv.wipe own) kn (new_at _ _ _) .nil (fun p hp => by
          obtain ⟨a, b⟩ := hw p hp
          obtain ⟨x, y⟩ := b.1.ext P2.ext
          exact ⟨by rw [items_same y]; exact a, x.le (by omega)⟩)
      cases hr2 : loopGP t own b q.items [] env0 S0 with
      | stuck => trivial
      | exc c env1 S1 => trivial
      | val us env1 S1 =>
        rw [hr2] at L
        obtain ⟨g3, e3, G⟩ := L
        have e3' : loopG t own (ub g1.S.length) qs.watch uenv qs.items (g1.S ++ [Cell.lst []]) = .val () g3.S := e3
        simp only [noXP, e3', noX]
        have x3 : Ext d (m + 2) (g1.new (.lst []) (.t (m + 2))) g3 := (G.ext.le (by omega)).ext (by rw [kn]; exact not_prot_t) (by rw [G.k0]; exact not_prot_t)
        obtain ⟨Iu, lu⟩ := unwipe P2.inv hflat x3.fro G.inv G.ls
        have P3 : Post d (m + 2) g1 env0 uenv S0 g3 (backP env0 env1 own) uenv S1 := P2.trans ⟨Iu, x3, lu⟩
        rcases unlends_cases q.back (backP env0 env1 own) S1 with hc | ⟨env4, S4, hc⟩
        · rw [hc]; trivial
        · rw [hc]
          obtain ⟨g4, a1, a2, a3, P4⟩ := bk g3 _ uenv S1 env4 S4 P3 hc
          obtain ⟨uacc, hc3, ra⟩ := G.cell
          have k4 : g4.κ g1.S.length = .t (m + 2) := (a3 _ (by rw [G.k0]; intro h; cases h)).trans G.k0
          have ch := g4.up_chg g1.S.length (.t m)
          have rl : Relab d g4 (g4.up g1.S.length (.t m)) := by
            refine ⟨rfl, rfl, fun x e => ?_, fun x e => ?_, fun x p e => ?_, fun x o e => ?_, fun x e => ?_⟩ <;> rw [g4.up_ne _ (fun e2 => by rw [e2, k4] at e; first | (cases e; done) | (cases p <;> cases e))] <;> exact e
          have f34 : Fro g3 g4 := ⟨fun l e => ⟨(a3 l (by rw [e]; intro h; cases h)).trans e, by rw [a1]⟩, by rw [a2]; exact List.prefix_refl _⟩
          refine ⟨g4.up g1.S.length (.t m), .ref g1.S.length, ?_, P4.trans ⟨P4.inv.relab rl, ch.ext (by rw [k4]; intro h; cases h) (by rw [k4]; exact fun h => absurd h (by show ¬ m + 2 < m; omega)) (by rw [g4.up_at]; exact not_prot_t), .relab rl⟩, .own (g4.up_at _ _) ?_ ((ra.mono f34).mono rl.frs), by intro h; cases h⟩
          · show R.val _ g3.S = R.val _ g4.S
            rw [a1]
          · show g4.S[g1.S.length]? = _
            rw [a1]; exact hc3
def OkO (P : Pg) (pcf : Nat → List Vl → OS → RC) (ucf : Nat → List U → Store → R U) (c : Eo) : Prop := ∀ (d m : Nat) (g : Gh) (env : VE) (uenv : Env) (S : OS), Inv d g env uenv S → Sat d m g env uenv S (fun _ a b => a = b) (evcP' P pcf c env S) (evc P ucf c uenv g.S)
def OkN (P : Pg) (pcf : Nat → List Vl → OS → RC) (ucf : Nat → List U → Store → R U) (c : Eo) : Prop := ∀ (d m : Nat) (g : Gh) (env : VE) (uenv : Env) (S : OS), Inv d g env uenv S → Sat d m g env uenv S (fun _ a b => a = b) (evoP P pcf c env S) (evo P ucf c uenv g.S)
theorem comp_ok {own : List Nat} {t : Tg} {it : It} {c : Eo} {e : E} (hit : OkI P pcf ucf it) (hc : OkO P pcf ucf c) (he : OkX P pcf ucf e) (k : Bool) (I : Inv d g env uenv S) : Sat d m g env uenv S (Tm2 m) (evP P pcf k (.comp own t it c e) env S) (ev P ucf (.comp own t it c e) uenv g.S) := by
  unfold evP ev
  simp only [loopCP_G, loopC_G]
  exact comp_gen (ub := fun l0 env S => (evc P ucf c env S).bind fun k S => if k then (ev P ucf e env S).bind fun y S2 => match S2[l0]? with
      | some (.lst acc) => if acc.length < LINE then .val () (S2.set l0 (.lst (acc ++ [y]))) else .stuck
      | _ => .stuck else .val () S) hit (fun l0 => body_ok (by omega) (fun g env uenv S I => hc d _ g env uenv S I) fun g env uenv S I => (he d _ g env uenv S I).2) I
theorem comp2_ok {own own1 : List Nat} {t t1 : Tg} {it it1 : It} {c c1 : Eo} {e : E} (hit : OkI P pcf ucf it) (hc : OkO P pcf ucf c) (hit1 : OkI P pcf ucf it1) (hc1 : OkO P pcf ucf c1) (he : OkX P pcf ucf e) (k : Bool) (I : Inv d g env uenv S) : Sat d m g env uenv S (Tm2 m) (evP P pcf k (.comp2 own t it c own1 t1 it1 c1 e) env S) (ev P ucf (.comp2 own t it c own1 t1 it1 c1 e) uenv g.S) := by
  unfold evP ev
  refine comp_gen (ub := fun l0 env1 S1 => (evc P ucf c env1 S1).bind fun k S1 => if k then (evi P ucf it1 env1 S1).bind fun q1 S2 => loopC t1 own1 (evc P ucf c1) (ev P ucf e) l0 q1.watch env1 q1.items S2 else .val () S1) hit (fun l0 => ?_) I
  intro g env uenv S acc uacc I k0 h0 ra
  dsimp only
  have s1 := hc d (m + 3) g env uenv S I
  cases hr : evcP' P pcf c env S with
  | stuck => trivial
  | exc x env1 S1 => trivial
  | val k env1 S1 =>
    rw [hr] at s1
    obtain ⟨g1, b, e1, P1, rfl⟩ := s1
    have pk : prot d (m + 3) (.t (m + 2)) := by show m + 2 < m + 3; omega
    have z1 := P1.ext.keep l0 (by rw [k0]; exact pk)
    simp only [RP.bind, e1, R.bind]
    cases k with
    | false => exact ⟨g1, rfl, P1.inv, P1.ext.e, P1.ls, z1.1.trans k0, uacc, z1.2.trans h0, ra.mono P1.ext.fro⟩
    | true =>
      simp only [if_true]
      have s2 := hit1 d (m + 3) g1 env1 uenv S1 P1.inv
      cases hr2 : eviP P pcf it1 env1 S1 with
      | stuck => trivial
      | exc x env2 S2 => trivial
      | val q env2 S2 =>
        rw [hr2] at s2
        obtain ⟨g2, qs, e2, I2, ri, hw, _, po⟩ := s2
        simp only [e2]
        cases hf : (freeOf env2 t1 own1 && q.back.isEmpty) with
        | false => trivial
        | true =>
          simp only [if_true]
          obtain ⟨hf1, hf2⟩ := q2 hf
          have P2 := po (by cases hq : q.back with
            | nil => rfl
            | cons a b => rw [hq] at hf2; cases hf2)
          obtain ⟨ht, hflat⟩ := freeOf_of hf1
          have z2 := P2.ext.keep l0 (by rw [z1.1, k0]; exact pk)
          have k2 : g2.κ l0 = .t (m + 2) := z2.1.trans (z1.1.trans k0)
          have L := grow_loop (d := d) (M := m + 5) (l0 := l0) (M0 := m + 2) (t := t1) (own := own1) (body_ok (by omega) (fun g env uenv S I => hc1 d _ g env uenv S I) fun g env uenv S I => (he d _ g env uenv S I).2) ht (w := qs.watch) (fun p hp e => (hw p hp).2.2 (m + 2) (by omega) (by rw [e]; exact k2)) (uenv := uenv) q.items qs.items acc uacc g2 env2 S2 ri (I2.wipe own1) k2 (z2.2.trans (z1.2.trans h0)) (ra.mono (P1.ext.fro.trans P2.ext.fro)) (fun p hp => ⟨(hw p hp).1, (hw p hp).2.1⟩)
          rw [loopCP_G, loopC_G]
          cases hr3 : loopGP t1 own1 (fun acc env S => (evcP' P pcf c1 env S).bind fun k env S => if k then (evP P pcf true e env S).bind fun y env S => if acc.length < LINE then .val (acc ++ [frz y]) env S else .stuck else .val acc env S) q.items acc env2 S2 with
          | stuck => trivial
          | exc x env3 S3 => trivial
          | val acc3 env3 S3 =>
            rw [hr3] at L
            obtain ⟨g3, e3, G⟩ := L
            obtain ⟨Iu, lu⟩ := unwipe I2 hflat G.ext.fro G.inv G.ls
            refine ⟨g3, e3, Iu, ((P1.ext.trans P2.ext).e).trans (G.ext.le (by omega)), (P1.ls.trans P2.ls).trans lu, G.k0, G.cell⟩
end
end PyM
set_option linter.all false
set_option autoImplicit false
set_option maxRecDepth 100000
set_option maxHeartbeats 1000000
/-! The pure machine keeps what the small machine does: every expression. -/
namespace PyM
open PyI
section
variable {d m M : Nat} {g g' g'' : Gh} {env env' env'' : VE} {uenv uenv' uenv'' : Env} {S S' S'' : OS} {α β γ δ : Type}
variable {P : Pg} {pcf : Nat → List Vl → OS → RC} {ucf : Nat → List U → Store → R U}
theorem okx_of {e : E} (h : ∀ (k : Bool) (d m : Nat) (g : Gh) (env : VE) (uenv : Env) (S : OS), Inv d g env uenv S → Sat d m g env uenv S (Tm2 m) (evP P pcf k e env S) (ev P ucf e uenv g.S)) : OkX P pcf ucf e := fun d m g env uenv S I => ⟨(h false d m g env uenv S I).br, h true d m g env uenv S I⟩
theorem opd_of {e : E} (h : OkX P pcf ucf e) (q : Bool) (I : Inv d g env uenv S) : if q then Sat d m g env uenv S Br (evP P pcf (!q) e env S) (ev P ucf e uenv g.S) else Sat d m g env uenv S (Tm2 m) (evP P pcf (!q) e env S) (ev P ucf e uenv g.S) := by
  cases q with
  | true => exact (h d m g env uenv S I).1
  | false => exact (h d m g env uenv S I).2
theorem x_bin {o : Bop} {a b : E} (ha : OkX P pcf ucf a) (hb : OkX P pcf ucf b) : OkX P pcf ucf (.bin o a b) := okx_of fun k d m g env uenv S I => by
  unfold evP ev
  exact Sat.opd (q := quiet b) (relb := Br) (opd_of ha _ I) (fun g1 env1 S1 v u I1 _ m1 _ _ => (hb d m1 g1 env1 uenv S1 I1).1) (fun q u St => quiet_adds P ucf b uenv St q) fun g2 env2 S2 v u w y I2 b1 b2 => .ofP I2 fun r e => bin_nw b1 b2 e
theorem x_cmp {o : Cop} {a b : E} (ha : OkX P pcf ucf a) (hb : OkX P pcf ucf b) : OkX P pcf ucf (.cmp o a b) := okx_of fun k d m g env uenv S I => by
  unfold evP ev
  exact Sat.opd (q := quiet b) (relb := Br) (opd_of ha _ I) (fun g1 env1 S1 v u I1 _ m1 _ _ => (hb d m1 g1 env1 uenv S1 I1).1) (fun q u St => quiet_adds P ucf b uenv St q) fun g2 env2 S2 v u w y I2 b1 b2 => .ofB I2 fun r e => by rw [cmp_ok2 b1 b2 e]; rfl
theorem x_ix {a b : E} (ha : OkX P pcf ucf a) (hb : OkX P pcf ucf b) : OkX P pcf ucf (.ix a b) := okx_of fun k d m g env uenv S I => by
  unfold evP ev
  exact Sat.opd (q := quiet b) (relb := Br) (opd_of ha _ I) (fun g1 env1 S1 v u I1 _ m1 _ _ => (hb d m1 g1 env1 uenv S1 I1).1) (fun q u St => quiet_adds P ucf b uenv St q) fun g2 env2 S2 v u w y I2 b1 b2 => .ofP I2 fun r e => by
    obtain ⟨x, e2, rp⟩ := ix_ok2 b1 b2 e
    rw [e2]
    exact .old rp
theorem x_cmp2 {o p : Cop} {a b c : E} (ha : OkX P pcf ucf a) (hb : OkX P pcf ucf b) (hc : OkX P pcf ucf c) : OkX P pcf ucf (.cmp2 o p a b c) := okx_of fun k d m g env uenv S I => by
  unfold evP ev
  refine Sat.opd (q := quiet b && quiet c) (relb := fun g w y => if quiet c then Br g w y else ∃ m1, m1 ≤ m + 1 ∧ Tm2 m1 g w y) (opd_of ha _ I) (fun g1 env1 S1 v u I1 _ m1 _ hm => ?_) (fun q u St => quiet_adds P ucf b uenv St (q2 q).1) fun g2 env2 S2 v u w y I2 b1 b2 => ?_
  · cases hq : quiet c with
    | true => exact (hb d m1 g1 env1 uenv S1 I1).1
    | false => exact (hb d m1 g1 env1 uenv S1 I1).2.imp fun _ _ _ t => ⟨m1, hm, t⟩
  · have by_ : Br g2 w y := by
      cases hq : quiet c with
      | true => rw [hq] at b2; exact b2
      | false => rw [hq] at b2; obtain ⟨m1, _, t⟩ := b2; exact t.br
    cases hx : cmpP o v w with
    | none => trivial
    | some r =>
      rw [cmp_ok2 b1 by_ hx]
      cases r with
      | false => exact .val I2 (Tm2.rep (.bl false))
      | true =>
        simp only
        refine Sat.le ?_ (show m ≤ m + 2 by omega)
        have s := (hc d (m + 2) g2 env2 uenv S2 I2).1
        cases hr : evP P pcf false c env2 S2 with
        | stuck => trivial
        | exc x env3 S3 => rw [hr] at s; obtain ⟨g3, e3, p3⟩ := s; rw [e3]; exact ⟨g3, rfl, p3⟩
        | val z env3 S3 =>
          rw [hr] at s
          obtain ⟨g3, uz, e3, p3, b3⟩ := s
          rw [e3]
          have by3 : Br g3 w y := by
            cases hq : quiet c with
            | true =>
              obtain ⟨T, hT⟩ := quiet_adds P ucf c uenv g2.S hq uz g3.S e3
              exact by_.adds p3.ext.fro hT
            | false =>
              rw [hq] at b2
              obtain ⟨m1, hm1, t⟩ := b2
              exact (t.held p3.ext (by omega)).br
          have fin : Sat d (m + 2) g3 env3 uenv S3 (Tm2 m) (ofP env3 S3 ((cmpP p w z).map .bl)) (ofO g3.S ((cmpU g3.S p y uz).map .bl)) := .ofB p3.inv fun r e => by rw [cmp_ok2 by3 b3 e]; rfl
          exact .post p3 fin
theorem x_and {a b : E} (ha : OkX P pcf ucf a) (hb : OkX P pcf ucf b) : OkX P pcf ucf (.and a b) := fun d m g env uenv S I => by
  unfold evP ev
  refine ⟨Sat.bind (ha d m g env uenv S I).1 fun g1 env1 S1 v u p t => ?_, Sat.bind (ha d m g env uenv S I).2 fun g1 env1 S1 v u p t => ?_⟩
  · cases h : truP v with
    | none => trivial
    | some c =>
      rw [tru_ok2 t h]
      cases c with
      | true => exact (hb d m g1 env1 uenv S1 p.inv).1
      | false => exact .val p.inv t
  · cases h : truP v with
    | none => trivial
    | some c =>
      rw [tru_ok2 t.br h]
      cases c with
      | true => exact (hb d m g1 env1 uenv S1 p.inv).2
      | false => exact .val p.inv t
theorem x_or {a b : E} (ha : OkX P pcf ucf a) (hb : OkX P pcf ucf b) : OkX P pcf ucf (.or a b) := fun d m g env uenv S I => by
  unfold evP ev
  refine ⟨Sat.bind (ha d m g env uenv S I).1 fun g1 env1 S1 v u p t => ?_, Sat.bind (ha d m g env uenv S I).2 fun g1 env1 S1 v u p t => ?_⟩
  · cases h : truP v with
    | none => trivial
    | some c =>
      rw [tru_ok2 t h]
      cases c with
      | false => exact (hb d m g1 env1 uenv S1 p.inv).1
      | true => exact .val p.inv t
  · cases h : truP v with
    | none => trivial
    | some c =>
      rw [tru_ok2 t.br h]
      cases c with
      | false => exact (hb d m g1 env1 uenv S1 p.inv).2
      | true => exact .val p.inv t
theorem x_ife {c a b : E} (hc : OkX P pcf ucf c) (ha : OkX P pcf ucf a) (hb : OkX P pcf ucf b) : OkX P pcf ucf (.ife c a b) := fun d m g env uenv S I => by
  unfold evP ev
  refine ⟨Sat.bind (hc d m g env uenv S I).1 fun g1 env1 S1 v u p t => ?_, Sat.bind (hc d m g env uenv S I).1 fun g1 env1 S1 v u p t => ?_⟩
  · cases h : truP v with
    | none => trivial
    | some c =>
      rw [tru_ok2 t h]
      cases c with
      | true => exact (ha d m g1 env1 uenv S1 p.inv).1
      | false => exact (hb d m g1 env1 uenv S1 p.inv).1
  · cases h : truP v with
    | none => trivial
    | some c =>
      rw [tru_ok2 t h]
      cases c with
      | true => exact (ha d m g1 env1 uenv S1 p.inv).2
      | false => exact (hb d m g1 env1 uenv S1 p.inv).2
theorem x_not {a : E} (ha : OkX P pcf ucf a) : OkX P pcf ucf (.not a) := okx_of fun k d m g env uenv S I => by
  unfold evP ev
  refine Sat.bind (ha d m g env uenv S I).1 fun g1 env1 S1 v u p t => ?_
  cases h : truP v with
  | none => trivial
  | some c => rw [tru_ok2 t h]; exact .val p.inv (Tm2.rep (.bl _))
theorem x_neg {a : E} (ha : OkX P pcf ucf a) : OkX P pcf ucf (.neg a) := okx_of fun k d m g env uenv S I => by
  unfold evP ev
  refine Sat.bind (ha d m g env uenv S I).1 fun g1 env1 S1 v u p t => ?_
  cases v <;> first | trivial | skip
  cases t.int'
  exact .val p.inv (Tm2.rep (.int _))
theorem x_tup {es : Es} (h : AllE (OkX P pcf ucf) es) : OkX P pcf ucf (.tup es) := okx_of fun k d m g env uenv S I => by
  unfold evP ev
  refine Sat.bind (evsT_ok es h m g env uenv S I) fun g1 env1 S1 vs us p r => ?_
  by_cases hl : vs.length ≤ LINE
  · rw [if_pos hl, if_pos (by rw [r.len]; exact hl)]; exact .val p.inv (Tm2.rep (.tup r))
  · rw [if_neg hl]; trivial
theorem x_lst {es : Es} (h : AllE (OkX P pcf ucf) es) : OkX P pcf ucf (.lst es) := okx_of fun k d m g env uenv S I => by
  unfold evP ev
  exact Sat.bind (evsT_ok es h m g env uenv S I) fun g1 env1 S1 vs us p r => .ofP p.inv fun v e => Nw.newP r e
theorem x_bi {b : Bi} {es : Es} (h : AllE (OkX P pcf ucf) es) : OkX P pcf ucf (.bi b es) := okx_of fun k d m g env uenv S I => by
  unfold evP ev
  exact Sat.bind (evsF_ok es h m g env uenv S I) fun g1 env1 S1 vs us p r => .ofP p.inv fun v e => bi_nw r e
theorem x_cut {a : E} {lo hi : Eo} (ha : OkX P pcf ucf a) (hlo : OkN P pcf ucf lo) (hhi : OkN P pcf ucf hi) : OkX P pcf ucf (.cut a lo hi) := okx_of fun k d m g env uenv S I => by
  have e1 : evP P pcf k (.cut a lo hi) env S = (evP P pcf (!(quietO lo && quietO hi)) a env S).bind fun x env S => ((evoP P pcf lo env S).bind fun i env S => (evoP P pcf hi env S).bind fun j env S => .val (i, j) env S).bind fun ij env S => ofP env S (cutP x ij.1 ij.2) := by
    rw [evP]
    congr 1
    funext x env S
    cases evoP P pcf lo env S with
    | stuck => rfl
    | exc c env S => rfl
    | val i env S =>
      simp only [RP.bind]
      cases evoP P pcf hi env S <;> rfl
  have e2 : ev P ucf (.cut a lo hi) uenv g.S = (ev P ucf a uenv g.S).bind fun x S => ((evo P ucf lo uenv S).bind fun i S => (evo P ucf hi uenv S).bind fun j S => .val (i, j) S).bind fun ij S => cutE x ij.1 ij.2 S := by
    rw [ev]
    congr 1
    funext x S
    cases evo P ucf lo uenv S with
    | stuck => rfl
    | exc c d S => rfl
    | val i S =>
      simp only [R.bind]
      cases evo P ucf hi uenv S <;> rfl
  rw [e1, e2]
  refine Sat.opd (q := quietO lo && quietO hi) (relb := fun _ (a b : Option Int × Option Int) => a = b) (opd_of ha _ I) (fun g1 env1 S1 v u I1 _ m1 _ _ => ?_) (fun q u St => ?_) fun g2 env2 S2 v u w y I2 b1 b2 => ?_
  · refine Sat.bind (hlo d m1 g1 env1 uenv S1 I1) fun g2 env2 S2 i i' p2 ei => Sat.bind (hhi d m1 g2 env2 uenv S2 p2.inv) fun g3 env3 S3 j j' p3 ej => .val p3.inv (by rw [ei, ej])
  · exact (quietO_adds P ucf lo uenv St (q2 q).1).bind fun i S1 => (quietO_adds P ucf hi uenv S1 (q2 q).2).bind fun j S2 => .val
  · subst b2
    exact .ofP I2 fun r e => cut_nw b1 e
theorem x_var (i : Nat) : OkX P pcf ucf (.var i) := fun d m g env uenv S I => by
  unfold evP ev
  simp only [if_true, Bool.false_eq_true, if_false]
  cases h : getP env S (.var i) with
  | none =>
    refine ⟨?_, ?_⟩
    · unfold readP; rw [h]; trivial
    · unfold keepP; rw [h]; trivial
  | some v =>
    obtain ⟨u, hu, s⟩ := I.pl _ v h
    have hu2 : uenv[i]?.join = some u := hu
    rw [join_some] at hu2
    rw [hu2]
    exact ⟨read_sat I hu, keep_sat I hu⟩
theorem x_esc (i : Nat) (q a b c e : Str) : OkX P pcf ucf (.esc i q a b c e) := okx_of fun k d m g env uenv S I => by
  unfold evP ev
  cases h : env[i]?.join with
  | none => trivial
  | some v =>
    cases v <;> first | trivial | skip
    rename_i x
    obtain ⟨u, hu, s⟩ := I.pl (.var i) _ h
    have hu2 : uenv[i]?.join = some u := hu
    rw [join_some] at hu2
    cases (s.br (by intro h; cases h)).str'
    rw [hu2]
    show Sat d m g env uenv S (Tm2 m) (ofP env S (Option.map Vl.str (escS q a b c e x))) (ofO g.S (Option.map U.str (escS q a b c e x)))
    cases escS q a b c e x with
    | none => trivial
    | some z => exact .val I (Tm2.rep (.str z))
theorem x_fld {a : E} {f : Nat} (ha : OkX P pcf ucf a) : OkX P pcf ucf (.fld a f) := fun d m g env uenv S I => by
  unfold evP ev
  simp only [if_true, Bool.false_eq_true, if_false]
  refine ⟨Sat.bind (ha d m g env uenv S I).1 fun g1 env1 S1 v u p br => ?_, Sat.bind (ha d m g env uenv S I).1 fun g1 env1 S1 v u p br => ?_⟩
  all_goals
    cases v <;> first | trivial | skip
    rename_i o
    obtain ⟨l, rfl, hl⟩ := br.obj'
    simp only
    cases h : getP env1 S1 (.fld o f) with
    | none => first | (unfold readP; rw [h]; trivial) | (unfold keepP; rw [h]; trivial)
    | some w =>
      obtain ⟨x, hx, s⟩ := p.inv.pl _ w h
      have hx2 := hx
      simp only [getU, hl] at hx2
      split at hx2
      · rename_i c ufs e
        try rw [e]
        simp only [hx2, ofO]
        first | exact read_sat p.inv hx | exact keep_sat p.inv hx
      · cases hx2
theorem x_mov (i : Nat) : OkX P pcf ucf (.mov i) := fun d m g env uenv S I => by
  have xv := x_var (P := P) (pcf := pcf) (ucf := ucf) i d m g env uenv S I
  unfold evP ev at xv ⊢
  refine ⟨xv.1, ?_⟩
  simp only [if_true]
  cases h : env[i]?.join with
  | none => trivial
  | some v =>
    obtain ⟨u, hu, s⟩ := I.pl (.var i) v h
    have hu : uenv[i]?.join = some u := hu
    have hu2 := hu
    rw [join_some] at hu2
    rw [hu2]
    cases hk : kd v with
    | bad => simp only [hk]; trivial
    | flat => simp only [hk]; exact .val I (Tm2.rep (s.of_flat hk))
    | own =>
      simp only [hk]
      obtain ⟨l, rfl, hl, cc, hc⟩ := s.own_at hk
      -- the name is emptied, and then its list is a temporary
      have h0 : getP env S (.var i) = some v := h
      obtain ⟨I1, s1, _⟩ := take_scope (m := m) (k := m) I h0 hk hu (Nat.le_refl _)
      have ch := g.up_chg l (.t m)
      have I2 : Inv d (g.up l (.t m)) (env.set i none) uenv S := by
        have hz := I1.setN i (uenv[i]?.join)
        have e1 : ((putE env (.var i) .tkn).set i none) = env.set i none := by
          show (env.set i (some .tkn)).set i none = _
          rw [List.set_set]
        have e2 : uenv.set i (uenv[i]?.join) = uenv := by
          apply List.ext_getElem?
          intro j
          rw [List.getElem?_set]
          split
          · rename_i e
            subst e
            rw [hu2]
            split
            · rfl
            · rename_i hn
              exact absurd (List.getElem?_eq_some_iff.mp hu2).1 hn
          · rfl
        rw [e1, e2] at hz
        exact hz
      refine ⟨g.up l (.t m), .ref l, rfl, ⟨I2, ch.ext (by rw [hl]; exact kind_ne_fro) (by rw [hl]; exact not_prot_kind) (by rw [g.up_at]; exact not_prot_t), fun p w e k => ?_⟩, s1, by rw [hk]; intro h; cases h⟩
      have no : ∀ o, g.κ l ≠ .o o := fun o => by rw [hl]; exact kind_ne_o o
      cases p with
      | var j =>
        have e : (env.set i none)[j]?.join = some w := e
        rw [List.getElem?_set] at e
        split at e
        · split at e <;> cases e
        · exact ⟨e, rfl⟩
      | fld o f => exact ⟨e, ch.getU I no (getP_lt (p := .fld o f) (env := env) e)⟩
end
end PyM
set_option linter.all false
set_option autoImplicit false
set_option maxRecDepth 100000
set_option maxHeartbeats 1000000
/-! The pure machine keeps what the small machine does: methods, calls; the whole of expressions. -/
namespace PyM
open PyI
section
variable {d m M : Nat} {g g' g'' : Gh} {env env' env'' : VE} {uenv uenv' uenv'' : Env} {S S' S'' : OS} {α β γ δ : Type}
variable {P : Pg} {pcf : Nat → List Vl → OS → RC} {ucf : Nat → List U → Store → R U}
theorem bmM_ok {b : Bm} {ws us : List Vl} {r : Vl} {ws1 : List Vl} {l : Nat} {uws uus : List U} (hS : g.S[l]? = some (.lst uws)) (rw_ : RepL g ws uws) (ru : RepL g us uus) (e : bmM b ws us = some (r, ws1)) : ∃ ur uws1, bmU b (.ref l) uus g.S = .val ur (g.S.set l (.lst uws1)) ∧ Rep g r ur ∧ RepL g ws1 uws1 := by
  unfold bmM at e
  split at e
  · rename_i u
    obtain ⟨u1, rfl, a⟩ := ru.one
    split at e
    · rename_i h
      cases e
      refine ⟨.non, _, ?_, .non, rw_.app (.cons a .nil)⟩
      simp only [bmU, hS]
      rw [if_pos (by rw [rw_.len]; exact h)]
    · cases e
  · rename_i o xs
    obtain ⟨u1, rfl, a⟩ := ru.one
    cases a with
    | lst _ hk rk =>
      split at e
      · rename_i h
        cases e
        refine ⟨.non, _, ?_, .non, rw_.app rk⟩
        simp only [bmU, hS, hk]
        rw [if_pos (by rw [rw_.len, rk.len]; exact h)]
      · cases e
  · cases ru
    cases h : ws.getLast? with
    | none => rw [h] at e; cases e
    | some x =>
      rw [h] at e
      cases e
      obtain ⟨u, hu, rx⟩ := rw_.last h
      exact ⟨u, _, by simp only [bmU, hS, hu], rx, rw_.dropLast⟩
  · rename_i i
    obtain ⟨u1, rfl, a⟩ := ru.one
    cases a
    split at e
    · rename_i h
      cases h2 : ws[i.toNat]? with
      | none => rw [h2] at e; cases e
      | some x =>
        rw [h2] at e
        cases e
        obtain ⟨u, hu, rx⟩ := rw_.at h2
        exact ⟨u, _, by simp only [bmU, hS]; rw [if_pos h]; simp only [hu], rx, rw_.erase _⟩
    · cases e
  · rename_i i u
    obtain ⟨u1, u2, rfl, a, c⟩ := ru.two
    cases a
    split at e
    · rename_i h
      cases e
      refine ⟨.non, _, ?_, .non, ((rw_.take _).app (.cons c .nil)).app (rw_.drop _)⟩
      simp only [bmU, hS]
      rw [if_pos (by rw [rw_.len]; exact h)]
    · cases e
  · cases e
theorem set_self {St : Store} {l : Nat} {c : Cell} (h : St[l]? = some c) : St.set l c = St := by
  apply List.ext_getElem?
  intro i
  rw [List.getElem?_set]
  split
  · rename_i e
    subst e
    rw [if_pos (List.getElem?_eq_some_iff.mp h).1, h]
  · rfl
theorem bdM_ok {b : Bm} {ws : List (Key × Vl)} {us : List Vl} {r : Vl} {ws1 : List (Key × Vl)} {l : Nat} {uws : List (Key × U)} {uus : List U} (hS : g.S[l]? = some (.dct uws)) (rw_ : RepK g ws uws) (ru : RepL g us uus) (e : bdM b ws us = some (r, ws1)) : ∃ ur uws1, bmU b (.ref l) uus g.S = .val ur (g.S.set l (.dct uws1)) ∧ Rep g r ur ∧ RepK g ws1 uws1 := by
  unfold bdM at e
  split at e
  · obtain ⟨w, rfl, hy⟩ := ru.one
    split at e
    · rename_i k hk
      have hk2 := key_br (.rep hy) hk
      rcases rw_.get k with ⟨e1, e2⟩ | ⟨v', u, e1, e2, rr⟩
      · rw [e1] at e; cases e
      · rw [e1] at e
        cases e
        exact ⟨u, _, by simp only [bmU, hS, hk2, e2], rr, rw_.drop k⟩
    · cases e
  · obtain ⟨w, z, rfl, hy, hz⟩ := ru.two
    split at e
    · rename_i k hk
      have hk2 := key_br (.rep hy) hk
      rcases rw_.get k with ⟨e1, e2⟩ | ⟨v', u, e1, e2, rr⟩
      · rw [e1] at e
        cases e
        exact ⟨z, uws, by simp only [bmU, hS, hk2, e2, set_self hS], hz, rw_⟩
      · rw [e1] at e
        cases e
        exact ⟨u, _, by simp only [bmU, hS, hk2, e2], rr, rw_.drop k⟩
    · cases e
  · cases e
theorem put_cellD {p : Pl} {ws ws1 : List (Key × Vl)} {l : Nat} {uws1 : List (Key × U)} (I : Inv d g env uenv S) (h0 : getP env S p = some (.dct .own ws)) (hu : getU uenv g p = some (.ref l)) (hl : g.κ l = kindP d p) (hlt : l < g.S.length) (r : RepK g ws1 uws1) :
    Post d m g env uenv S (g.cell l (.dct uws1)) (putE env p (.dct .own ws1)) uenv (putS S p (.dct .own ws1)) := by
  have ch := g.cell_chg l (.dct uws1)
  have n : g.κ l ≠ .fro := by rw [hl]; exact kind_ne_fro
  have no : ∀ o, g.κ l ≠ .o o := fun o => by rw [hl]; exact kind_ne_o o
  have s : Sl (g.cell l (.dct uws1)) (kindP d p) (.dct .own ws1) (.ref l) := .ownD hl (by
    show (g.S.set l _)[l]? = _
    rw [List.getElem?_set, if_pos rfl, if_pos hlt]) (r.mono (ch.fro n))
  exact ⟨I.put h0 hu ch n no hlt (I.alone hl) s, ch.ext n (by rw [hl]; exact not_prot_kind) (by rw [show (g.cell l (.dct uws1)).κ l = g.κ l from rfl, hl]; exact not_prot_kind), LS.put I h0 ch no (by intro h; cases h)⟩
theorem mutD_ty {b : Bm} (h : dB b = true) {St : Store} {l : Nat} {us : List (Key × U)} (hS : St[l]? = some (.dct us)) : tyU b St (.ref l) = true := by
  cases b <;> first | (cases h; done) | (simp only [tyU, dctU, hS]; rfl)
theorem mutB_ty {b : Bm} (h : mutB b = true) (hd : dB b = false) {St : Store} {l : Nat} {us : List U} (hS : St[l]? = some (.lst us)) : tyU b St (.ref l) = true := by
  cases b <;> first | (cases h; done) | (cases hd; done) | (simp only [tyU, hS])
/-- an owned list gets another content -/
theorem put_cell {p : Pl} {ws ws1 : List Vl} {l : Nat} {uws1 : List U} (I : Inv d g env uenv S) (h0 : getP env S p = some (.lst .own ws)) (hu : getU uenv g p = some (.ref l)) (hl : g.κ l = kindP d p) (hlt : l < g.S.length) (r : RepL g ws1 uws1) :
    Post d m g env uenv S (g.cell l (.lst uws1)) (putE env p (.lst .own ws1)) uenv (putS S p (.lst .own ws1)) := by
  have ch := g.cell_chg l (.lst uws1)
  have n : g.κ l ≠ .fro := by rw [hl]; exact kind_ne_fro
  have no : ∀ o, g.κ l ≠ .o o := fun o => by rw [hl]; exact kind_ne_o o
  have s : Sl (g.cell l (.lst uws1)) (kindP d p) (.lst .own ws1) (.ref l) := .own hl (by
    show (g.S.set l _)[l]? = _
    rw [List.getElem?_set, if_pos rfl, if_pos hlt]) (r.mono (ch.fro n))
  exact ⟨I.put h0 hu ch n no hlt (I.alone hl) s, ch.ext n (by rw [hl]; exact not_prot_kind) (by rw [show (g.cell l (.lst uws1)).κ l = g.κ l from rfl, hl]; exact not_prot_kind), LS.put I h0 ch no (by intro h; cases h)⟩
theorem mutAt_ok {b : Bm} {p : Pl} {us : List Vl} {uus : List U} {l : Nat} (I : Inv d g env uenv S) (hu : getU uenv g p = some (.ref l)) (ru : RepL g us uus) : Sat d m g env uenv S (Tm2 m) (mutAt b p us env S) (bmU b (.ref l) uus g.S) := by
  unfold mutAt
  split
  · rename_i ws h0
    obtain ⟨u', hu', s⟩ := I.pl p _ h0
    rw [hu] at hu'
    cases hu'
    cases s with
    | rep r => cases r
    | own hl hS rw_ =>
      split
      · rename_i r ws1 e
        obtain ⟨ur, uws1, e2, rr, rw1⟩ := bmM_ok hS rw_ ru e
        have P1 := put_cell (m := m) I h0 hu hl (List.getElem?_eq_some_iff.mp hS).1 rw1
        exact ⟨g.cell l (.lst uws1), ur, e2, P1, Tm2.rep (rr.mono P1.ext.fro)⟩
      · trivial
  · rename_i ws h0
    obtain ⟨u', hu', s⟩ := I.pl p _ h0
    rw [hu] at hu'
    cases hu'
    cases s with
    | rep r => cases r
    | ownD hl hS rw_ =>
      split
      · rename_i r ws1 e
        obtain ⟨ur, uws1, e2, rr, rw1⟩ := bdM_ok hS rw_ ru e
        have P1 := put_cellD (m := m) I h0 hu hl (List.getElem?_eq_some_iff.mp hS).1 rw1
        exact ⟨g.cell l (.dct uws1), ur, e2, P1, Tm2.rep (rr.mono P1.ext.fro)⟩
      · trivial
  · trivial
theorem getU_adds {p : Pl} {u : U} (h : getU uenv g p = some u) (f : Fro g g') {T : Store} (e : g'.S = g.S ++ T) : getU uenv g' p = some u := by
  cases p with
  | var i => exact h
  | fld o f' =>
    simp only [getU] at h ⊢
    split at h
    · rename_i l hl
      have h3 : ∃ c ufs, g.S[l]? = some (.ins c ufs) ∧ ufs.lookup f' = some u := by
        cases hS : g.S[l]? with
        | none => simp only [hl, hS] at h; cases h
        | some cc =>
          cases cc <;> first | (simp only [hl, hS] at h; cases h; done) | skip
          rename_i c ufs
          simp only [hl, hS] at h
          exact ⟨c, ufs, rfl, h⟩
      obtain ⟨c, ufs, hc, hlk⟩ := h3
      have h4 : g'.S[l]? = some (.ins c ufs) := by rw [e, List.getElem?_append_left (List.getElem?_eq_some_iff.mp hc).1, hc]
      simp only [pre_get f.om hl, h4]
      exact hlk
    · cases h
theorem tyP_ok {b : Bm} {x : Vl} {u : U} (h : Br g x u) (e : tyP b x = true) : tyU b g.S u = true := by
  unfold tyP at e
  split at e
  · obtain ⟨l, us', rfl, a, r⟩ := h.lst'
    simp only [tyU, a]
  · cases h.str'; rfl
  · obtain ⟨l, us', rfl, a, r⟩ := h.dct'
    simp only [tyU, dctU, a]; rfl
  · obtain ⟨l, us', rfl, a, r⟩ := h.dct'
    simp only [tyU, dctU, a]; rfl
  · cases e
theorem x_bm {b : Bm} {o : E} {es : Es} (ho : OkX P pcf ucf o) (h : AllE (OkX P pcf ucf) es) : OkX P pcf ucf (.bm b o es) := okx_of fun k d m g env uenv S I => by
  unfold evP ev
  cases hb : mutB b with
  | false =>
    simp only [Bool.false_eq_true, if_false]
    have s0 := opd_of (m := m) ho (quiets es) I
    cases hr : evP P pcf (!quiets es) o env S with
    | stuck => trivial
    | exc c env1 S1 =>
      rw [hr] at s0
      cases hq : quiets es <;> rw [hq] at s0 <;> (obtain ⟨g1, e, p⟩ := s0; rw [e]; exact ⟨g1, rfl, p⟩)
    | val x env1 S1 =>
      rw [hr] at s0
      have s1 : ∃ g1 u, ev P ucf o uenv g.S = .val u g1.S ∧ Post d m g env uenv S g1 env1 uenv S1 ∧ (if quiets es then Br g1 x u else Tm2 m g1 x u) := by
        cases hq : quiets es <;> rw [hq] at s0 <;> (obtain ⟨g1, u, e, p, t⟩ := s0; exact ⟨g1, u, e, p, t⟩)
      obtain ⟨g1, u, e, P1, t⟩ := s1
      rw [e]
      simp only [RP.bind, R.bind]
      have b1 : Br g1 x u := by
        cases hq : quiets es <;> rw [hq] at t
        · exact Tm2.br t
        · exact t
      cases hty : tyP b x with
      | false => trivial
      | true =>
        simp only [if_true]
        rw [if_pos (tyP_ok b1 hty)]
        have s2 := evsF_ok es h (m + 1) g1 env1 uenv S1 P1.inv
        cases hr2 : evsP P pcf false es env1 S1 with
        | stuck => trivial
        | exc c env2 S2 =>
          rw [hr2] at s2
          obtain ⟨g2, e2, P2⟩ := s2
          rw [e2]
          exact ⟨g2, rfl, P1.trans (P2.le (by omega))⟩
        | val us env2 S2 =>
          rw [hr2] at s2
          obtain ⟨g2, uus, e2, P2, bs⟩ := s2
          have b2 : Br g2 x u := by
            cases hq : quiets es with
            | true =>
              obtain ⟨T, hT⟩ := quiets_adds P ucf es uenv g1.S hq uus g2.S e2
              exact b1.adds P2.ext.fro hT
            | false =>
              rw [hq] at t
              exact (Tm2.held t P2.ext (by omega)).br
          rw [e2]
          exact .post P1 (.post (P2.le (by omega)) (.ofP P2.inv fun v e => bm_nw b2 bs e))
  | true =>
    simp only [if_true]
    cases hp : plc env S o with
    | none => trivial
    | some p =>
      simp only
      cases h0 : getP env S p with
      | none => trivial
      | some v0 =>
        cases hm : ownM b (some v0) with
        | false => simp only [Bool.false_eq_true, if_false]; trivial
        | true =>
          simp only [if_true]
          unfold ownM at hm
          split at hm
          · rename_i ws e0
            cases e0
            have hd : dB b = false := by simpa using hm
            obtain ⟨u, hu, s⟩ := I.pl p _ h0
            cases s with
            | rep r => cases r
            | @own l _ us hl hS rw_ =>
              rw [plc_ev I hp hu]
              simp only [R.bind]
              rw [if_pos (mutB_ty hb hd hS)]
              cases hq : quiets es with
              | true =>
                simp only [if_true]
                have s2 := evsT_ok es h m g env uenv S I
                cases hr2 : evsP P pcf true es env S with
                | stuck => trivial
                | exc c env2 S2 => rw [hr2] at s2; obtain ⟨g2, e2, P2⟩ := s2; rw [e2]; exact ⟨g2, rfl, P2⟩
                | val us env2 S2 =>
                  rw [hr2] at s2
                  obtain ⟨g2, uus, e2, P2, ru⟩ := s2
                  rw [e2]
                  obtain ⟨T, hT⟩ := quiets_adds P ucf es uenv g.S hq uus g2.S e2
                  exact .post P2 (mutAt_ok P2.inv (getU_adds hu P2.ext.fro hT) ru)
              | false =>
                simp only [Bool.false_eq_true, if_false]
                unfold lendDo
                have h1 : lend p env S = .val (.lst .lent ws, some p) (putE env p (.lst .lent ws)) (putS S p (.lst .lent ws)) := by
                  unfold lend; rw [h0]
                rw [h1]
                simp only [RP.bind]
                have sl : Sl (g.up l .ext) (kindP d p) (.lst .lent ws) (.ref l) := .lent (g.up_at _ _) hS (rw_.mono ((g.up_chg l _).fro (by rw [hl]; exact kind_ne_fro)))
                obtain ⟨I1, sc⟩ := lend_scope (m := m) I h0 rfl hu (.lst .lent ws) rfl sl
                have s2 := evsT_ok es h m (g.up l .ext) _ uenv _ I1
                cases hr2 : evsP P pcf true es (putE env p (.lst .lent ws)) (putS S p (.lst .lent ws)) with
                | stuck => trivial
                | exc c env2 S2 =>
                  rw [hr2] at s2
                  obtain ⟨g2, e2, P2⟩ := s2
                  simp only
                  have e2 : evs P ucf es uenv g.S = .exc c none g2.S := e2
                  rcases unlend_cases p env2 S2 with hc | ⟨env3, S3, hc⟩
                  · rw [hc]; trivial
                  · rw [hc, e2]
                    obtain ⟨P3, _, _⟩ := sc g2 env2 uenv S2 env3 S3 P2 hc
                    exact ⟨g2.up l (kindP d p), rfl, P3⟩
                | val us env2 S2 =>
                  rw [hr2] at s2
                  obtain ⟨g2, uus, e2, P2, ru⟩ := s2
                  simp only
                  have e2 : evs P ucf es uenv g.S = .val uus g2.S := e2
                  rcases unlend_cases p env2 S2 with hc | ⟨env3, S3, hc⟩
                  · rw [hc]; trivial
                  · rw [hc, e2]
                    obtain ⟨P3, k2, hu2⟩ := sc g2 env2 uenv S2 env3 S3 P2 hc
                    have f3 : Fro g2 (g2.up l (kindP d p)) := (g2.up_chg l _).fro (by rw [k2]; intro h; cases h)
                    have hu3 : getU uenv (g2.up l (kindP d p)) p = some (.ref l) := by
                      cases p <;> exact hu2
                    exact .post P3 (mutAt_ok (m := m) (b := b) P3.inv hu3 (ru.mono f3))
          · rename_i ws e0
            cases e0
            have hd : dB b = true := hm
            obtain ⟨u, hu, s⟩ := I.pl p _ h0
            cases s with
            | rep r => cases r
            | @ownD l _ us hl hS rw_ =>
              rw [plc_ev I hp hu]
              simp only [R.bind]
              rw [if_pos (mutD_ty hd hS)]
              cases hq : quiets es with
              | true =>
                simp only [if_true]
                have s2 := evsT_ok es h m g env uenv S I
                cases hr2 : evsP P pcf true es env S with
                | stuck => trivial
                | exc c env2 S2 => rw [hr2] at s2; obtain ⟨g2, e2, P2⟩ := s2; rw [e2]; exact ⟨g2, rfl, P2⟩
                | val us env2 S2 =>
                  rw [hr2] at s2
                  obtain ⟨g2, uus, e2, P2, ru⟩ := s2
                  rw [e2]
                  obtain ⟨T, hT⟩ := quiets_adds P ucf es uenv g.S hq uus g2.S e2
                  exact .post P2 (mutAt_ok P2.inv (getU_adds hu P2.ext.fro hT) ru)
              | false =>
                simp only [Bool.false_eq_true, if_false]
                unfold lendDo
                have h1 : lend p env S = .val (.dct .lent ws, some p) (putE env p (.dct .lent ws)) (putS S p (.dct .lent ws)) := by
                  unfold lend; rw [h0]
                rw [h1]
                simp only [RP.bind]
                have sl : Sl (g.up l .ext) (kindP d p) (.dct .lent ws) (.ref l) := .lentD (g.up_at _ _) hS (rw_.mono ((g.up_chg l _).fro (by rw [hl]; exact kind_ne_fro)))
                obtain ⟨I1, sc⟩ := lend_scope (m := m) I h0 rfl hu (.dct .lent ws) rfl sl
                have s2 := evsT_ok es h m (g.up l .ext) _ uenv _ I1
                cases hr2 : evsP P pcf true es (putE env p (.dct .lent ws)) (putS S p (.dct .lent ws)) with
                | stuck => trivial
                | exc c env2 S2 =>
                  rw [hr2] at s2
                  obtain ⟨g2, e2, P2⟩ := s2
                  simp only
                  have e2 : evs P ucf es uenv g.S = .exc c none g2.S := e2
                  rcases unlend_cases p env2 S2 with hc | ⟨env3, S3, hc⟩
                  · rw [hc]; trivial
                  · rw [hc, e2]
                    obtain ⟨P3, _, _⟩ := sc g2 env2 uenv S2 env3 S3 P2 hc
                    exact ⟨g2.up l (kindP d p), rfl, P3⟩
                | val us env2 S2 =>
                  rw [hr2] at s2
                  obtain ⟨g2, uus, e2, P2, ru⟩ := s2
                  simp only
                  have e2 : evs P ucf es uenv g.S = .val uus g2.S := e2
                  rcases unlend_cases p env2 S2 with hc | ⟨env3, S3, hc⟩
                  · rw [hc]; trivial
                  · rw [hc, e2]
                    obtain ⟨P3, k2, hu2⟩ := sc g2 env2 uenv S2 env3 S3 P2 hc
                    have f3 : Fro g2 (g2.up l (kindP d p)) := (g2.up_chg l _).fro (by rw [k2]; intro h; cases h)
                    have hu3 : getU uenv (g2.up l (kindP d p)) p = some (.ref l) := by
                      cases p <;> exact hu2
                    exact .post P3 (mutAt_ok (m := m) (b := b) P3.inv hu3 (ru.mono f3))
          · cases hm
theorem pairs_rep : ∀ {vs : List Vl} {us : List U} {kvs : List (Key × Vl)}, RepL g vs us → pairsP vs = some kvs → ∃ ukvs, pairsU us = some ukvs ∧ RepK g kvs ukvs ∧ ukvs.length = kvs.length
  | [], us, kvs, r, h => by cases r; cases h; exact ⟨[], rfl, .nil, rfl⟩
  | [x], us, kvs, r, h => by cases h
  | x :: y :: vs, us, kvs, r, h => by
    cases r with
    | cons a r =>
      cases r with
      | cons b r =>
        unfold pairsP at h
        split at h
        · rename_i q kvs' h1 h2
          cases h
          obtain ⟨ukvs, e, rk, hl⟩ := pairs_rep r h2
          exact ⟨_, by unfold pairsU; rw [key_br (.rep a) h1, e], .cons b rk, by rw [List.length_cons, List.length_cons, hl]⟩
        · cases h
theorem RepK.merge : ∀ {more acc : List (Key × Vl)} {us ac : List (Key × U)}, RepK g more us → RepK g acc ac → RepK g (more.foldl (fun a p => putKV p.1 p.2 a) acc) (us.foldl (fun a p => putKV p.1 p.2 a) ac) := by
  intro more
  induction more with
  | nil => intro acc us ac r s; cases r; exact s
  | cons p more ih =>
    intro acc us ac r s
    cases r with
    | @cons k v u _ us a r' => exact ih (acc := putKV k v acc) (us := us) (ac := putKV k u ac) r' (s.put k a)
theorem x_dctL {es : Es} (h : AllE (OkX P pcf ucf) es) : OkX P pcf ucf (.dctL es) := okx_of fun k d m g env uenv S I => by
  unfold evP ev
  have P0 := I.newP (m := m) (.dct []) (k := .t m) not_prot_t
  have hlen : (g.new (.dct []) (.t m)).S = g.S ++ [.dct []] := rfl
  have s2 := evsT_ok es h (m + 1) (g.new (.dct []) (.t m)) env uenv S P0.inv
  rw [hlen] at s2
  cases hr : evsP P pcf true es env S with
  | stuck => trivial
  | exc c env2 S2 =>
    rw [hr] at s2
    obtain ⟨g2, e2, P2⟩ := s2
    rw [e2]
    exact ⟨g2, rfl, P0.trans (P2.le (by omega))⟩
  | val vs env2 S2 =>
    rw [hr] at s2
    obtain ⟨g2, us, e2, P2, r⟩ := s2
    rw [e2]
    simp only [RP.bind, R.bind]
    cases hp : pairsP vs with
    | none => trivial
    | some kvs =>
      simp only
      split
      · rename_i hz
        obtain ⟨ukvs, e3, rk, hl⟩ := pairs_rep r hp
        have pr : prot d (m + 1) ((g.new (.dct []) (.t m)).κ g.S.length) := by rw [new_kind]; show m < m + 1; omega
        obtain ⟨k1, k2⟩ := P2.ext.keep g.S.length pr
        rw [new_kind] at k1
        have k2 : g2.S[g.S.length]? = some (.dct []) := by rw [k2]; exact new_at _ _ _
        have np : ∀ p, g2.κ g.S.length ≠ kindP d p := fun p h => by rw [k1] at h; cases p <;> cases h
        obtain ⟨I3, l3⟩ := P2.inv.cell np (by rw [k1]; intro h; cases h) (by rw [k1]; intro h; cases h) (fun o => by rw [k1]; intro h; cases h) (.dct (mergeKV ukvs))
        have ch := g2.cell_chg g.S.length (.dct (mergeKV ukvs))
        have f3 : Fro g2 (g2.cell g.S.length (.dct (mergeKV ukvs))) := ch.fro (by rw [k1]; intro h; cases h)
        have E3 : Ext d m g2 (g2.cell g.S.length (.dct (mergeKV ukvs))) := ch.ext (by rw [k1]; intro h; cases h) (by rw [k1]; exact not_prot_t) (by rw [show (g2.cell g.S.length (.dct (mergeKV ukvs))).κ g.S.length = g2.κ g.S.length from rfl, k1]; exact not_prot_t)
        refine ⟨g2.cell g.S.length (.dct (mergeKV ukvs)), .ref g.S.length, ?_, P0.trans ((P2.le (by omega)).trans ⟨I3, E3, l3⟩), .ownD k1 ?_ ((RepK.merge rk .nil).mono f3), by intro h; cases h⟩
        · rw [k2, e3]
          simp only [hl, hz, if_true]
          rfl
        · show (g2.S.set _ _)[_]? = _
          rw [List.getElem?_set, if_pos rfl, if_pos (List.getElem?_eq_some_iff.mp k2).1]
          rfl
      · trivial
theorem x_call (hc : CallOk P pcf ucf) {f : Nat} {es : Es} (h : AllE (OkX P pcf ucf) es) : OkX P pcf ucf (.call f es) := okx_of fun k d m g env uenv S I => by
  unfold evP ev
  have := evc_ok (m := m) (P := P) (md := mdOf P f) (Q := fun _ => True) (fun _ _ _ _ => trivial) (leaf_call hc f) es h [] [] g env uenv S I trivial ⟨rfl, fun j v u h => by cases h⟩
  exact SatC.dn this
theorem x_callv (hc : CallOk P pcf ucf) {x : Nat} {es : Es} (h : AllE (OkX P pcf ucf) es) : OkX P pcf ucf (.callv x es) := okx_of fun k d m g env uenv S I => by
  unfold evP ev
  split
  · rename_i f hf
    obtain ⟨u, hu, s⟩ := I.pl (.var x) _ hf
    have hu2 : uenv[x]?.join = some u := hu
    rw [join_some] at hu2
    cases (s.br (by intro h; cases h)).fn'
    rw [hu2]
    have := evc_ok (m := m) (P := P) (md := mdOf P f) (Q := fun _ => True) (fun _ _ _ _ => trivial) (leaf_call hc f) es h [] [] g env uenv S I trivial ⟨rfl, fun j v u h => by cases h⟩
    exact SatC.dn this
  · trivial
theorem x_mk (hc : CallOk P pcf ucf) {c : Nat} {es : Es} (h : AllE (OkX P pcf ucf) es) : OkX P pcf ucf (.mk c es) := okx_of fun k d m g env uenv S I => by
  unfold evP ev
  split
  · rename_i f hf
    have := evc_ok (m := m) (P := P) (md := (mdOf P f).tail) (Q := fun _ => True) (fun _ _ _ _ => trivial) (leaf_mk hc f c) es h [] [] g env uenv S I trivial ⟨rfl, fun j v u h => by cases h⟩
    have := SatC.dn this
    try simp only [hf]
    exact this
  · trivial
theorem look_names {f : Nat} : ∀ {fs : List (Nat × Vl)} {ufs : List (Nat × U)}, ufs.map (·.1) = fs.map (·.1) → fs.lookup f = none → ufs.lookup f = none
  | [], ufs, h, _ => by cases ufs <;> first | rfl | cases h
  | (n, v) :: fs, ufs, h, e => by
    cases ufs with
    | nil => cases h
    | cons q ufs =>
      obtain ⟨n', u⟩ := q
      simp only [List.map_cons, List.cons.injEq] at h
      obtain ⟨rfl, h⟩ := h
      simp only [List.lookup] at e ⊢
      split at e
      · cases e
      · exact look_names h e
theorem x_meth (hc : CallOk P pcf ucf) {n : Nat} {o : E} {es : Es} (ho : OkX P pcf ucf o) (h : AllE (OkX P pcf ucf) es) : OkX P pcf ucf (.meth n o es) := okx_of fun k d m g env uenv S I => by
  unfold evP ev
  refine Sat.bind (ho d m g env uenv S I).1 fun g1 env1 S1 v u p br => ?_
  cases v <;> first | trivial | skip
  rename_i i
  obtain ⟨l, rfl, hl⟩ := br.obj'
  simp only
  split
  · rename_i c fs hS
    obtain ⟨l', ufs, h1, h2, h3, h4⟩ := p.inv.ob i c fs hS
    rw [hl] at h1
    cases h1
    rw [h3]
    simp only
    split
    · rename_i f hm hn
      rw [hm, look_names h4 hn]
      have := evc_ok (m := m) (P := P) (md := (mdOf P f).tail) (Q := fun g => g.om[i]? = some l) (fun _ _ fr h => pre_get fr.om h) (leaf_meth hc f i l) es h [] [] g1 env1 uenv S1 p.inv hl ⟨rfl, fun j v u h => by cases h⟩
      exact SatC.dn this
    · trivial
  · trivial
mutual
theorem okX (hc : CallOk P pcf ucf) : ∀ e : E, OkX P pcf ucf e
  | .var i => x_var i
  | .mov i => x_mov i
  | .int i => okx_of fun k d m g env uenv S I => by unfold evP ev; exact .val I (Tm2.rep (.int i))
  | .str i => okx_of fun k d m g env uenv S I => by unfold evP ev; exact .val I (Tm2.rep (.str i))
  | .bl i => okx_of fun k d m g env uenv S I => by unfold evP ev; exact .val I (Tm2.rep (.bl i))
  | .non => okx_of fun k d m g env uenv S I => by unfold evP ev; exact .val I (Tm2.rep .non)
  | .fnv f => okx_of fun k d m g env uenv S I => by unfold evP ev; exact .val I (Tm2.rep (.fn f))
  | .glo i => okx_of fun k d m g env uenv S I => by
    unfold evP ev
    refine .ofP I fun v e => ?_
    cases h : P.glo[i]? with
    | none => rw [h] at e; cases e
    | some u => rw [h] at e; exact .old (toV_ok e)
  | .esc i q a b c d => x_esc i q a b c d
  | .dict0 => okx_of fun k d m g env uenv S I => by unfold evP ev; exact .nw I (.dct .nil)
  | .stk => okx_of fun k d m g env uenv S I => by unfold evP; trivial
  | .dctL es => x_dctL (okXs hc es)
  | .bin o a b => x_bin (okX hc a) (okX hc b)
  | .neg a => x_neg (okX hc a)
  | .cmp o a b => x_cmp (okX hc a) (okX hc b)
  | .cmp2 o p a b c => x_cmp2 (okX hc a) (okX hc b) (okX hc c)
  | .and a b => x_and (okX hc a) (okX hc b)
  | .or a b => x_or (okX hc a) (okX hc b)
  | .not a => x_not (okX hc a)
  | .ife c a b => x_ife (okX hc c) (okX hc a) (okX hc b)
  | .tup es => x_tup (okXs hc es)
  | .lst es => x_lst (okXs hc es)
  | .ix a b => x_ix (okX hc a) (okX hc b)
  | .cut a lo hi => x_cut (okX hc a) (okXn hc lo) (okXn hc hi)
  | .fld a f => x_fld (okX hc a)
  | .call f es => x_call hc (okXs hc es)
  | .callv f es => x_callv hc (okXs hc es)
  | .meth n o es => x_meth hc (okX hc o) (okXs hc es)
  | .mk c es => x_mk hc (okXs hc es)
  | .bi b es => x_bi (okXs hc es)
  | .bm b o es => x_bm (okX hc o) (okXs hc es)
  | .comp own t it c e => okx_of fun k d m g env uenv S I => comp_ok (okXi hc it) (okXo hc c) (okX hc e) k I
  | .comp2 own t it c own1 t1 it1 c1 e => okx_of fun k d m g env uenv S I => comp2_ok (okXi hc it) (okXo hc c) (okXi hc it1) (okXo hc c1) (okX hc e) k I
theorem okXs (hc : CallOk P pcf ucf) : ∀ es : Es, AllE (OkX P pcf ucf) es
  | .nil => trivial
  | .cons e r => ⟨okX hc e, okXs hc r⟩
theorem okXn (hc : CallOk P pcf ucf) : ∀ c : Eo, OkN P pcf ucf c
  | .none => fun d m g env uenv S I => by unfold evoP evo; exact .val I rfl
  | .some e => fun d m g env uenv S I => by
    unfold evoP evo
    refine Sat.bind (okX hc e d m g env uenv S I).1 fun g1 env1 S1 v u p br => ?_
    cases v <;> first | trivial | skip
    cases br.int'
    exact .val p.inv rfl
theorem okXo (hc : CallOk P pcf ucf) : ∀ c : Eo, OkO P pcf ucf c
  | .none => fun d m g env uenv S I => by unfold evcP' evc; exact .val I rfl
  | .some e => fun d m g env uenv S I => by
    unfold evcP' evc
    refine Sat.bind (okX hc e d m g env uenv S I).1 fun g1 env1 S1 v u p br => ?_
    cases h : truP v with
    | none => trivial
    | some c => unfold tru; rw [tru_ok2 br h]; exact .val p.inv rfl
theorem okXi (hc : CallOk P pcf ucf) : ∀ it : It, OkI P pcf ucf it
  | .seq e => okI_seq (okX hc e)
  | .rng1 e => okI_rng1 (okX hc e)
  | .rrng1 e => okI_rrng1 (okX hc e)
  | .rng2 a b => okI_rng2 (okX hc a) (okX hc b)
  | .enum e => okI_enum (okX hc e)
  | .zip a b => okI_zip (okX hc a) (okX hc b)
  | .rev e => okI_rev (okX hc e)
  | .chars e => okI_chars (okX hc e)
end
end
end PyM
set_option linter.all false
set_option autoImplicit false
set_option maxRecDepth 100000
set_option maxHeartbeats 1000000
/-! The pure machine keeps what the small machine does: statements. -/
namespace PyM
open PyI
section
variable {d m M : Nat} {g g' g'' : Gh} {env env' env'' : VE} {uenv uenv' uenv'' : Env} {S S' S'' : OS} {α β γ δ : Type}
variable {P : Pg} {pcf : Nat → List Vl → OS → RC} {ucf : Nat → List U → Store → R U} {n : Nat}
def Same (A : List Nat) (uenv uenv' : Env) : Prop := ∀ j, j ∉ A → uenv'[j]? = uenv[j]?
theorem Same.refl (A : List Nat) (e : Env) : Same A e e := fun _ _ => rfl
theorem Same.trans {A : List Nat} {a b c : Env} (h : Same A a b) (k : Same A b c) : Same A a c := fun j hj => (k j hj).trans (h j hj)
def SatO (d m : Nat) (g : Gh) (env : VE) (uenv : Env) (S : OS) (A : List Nat) (r : OP) (x : Out) : Prop := match r with
  | .nx env' S' => ∃ g' uenv', x = .nx uenv' g'.S ∧ Post d m g env uenv S g' env' uenv' S' ∧ Same A uenv uenv'
  | .bk env' S' => ∃ g' uenv', x = .bk uenv' g'.S ∧ Post d m g env uenv S g' env' uenv' S' ∧ Same A uenv uenv'
  | .ct env' S' => ∃ g' uenv', x = .ct uenv' g'.S ∧ Post d m g env uenv S g' env' uenv' S' ∧ Same A uenv uenv'
  | .rt u env' S' => ∃ g' uenv' b, x = .rt b g'.S ∧ Post d m g env uenv S g' env' uenv' S' ∧ Same A uenv uenv' ∧ Tm2 m g' u b
  | .exc c env' S' => ∃ g' uenv', x = .exc c none uenv' g'.S ∧ Post d m g env uenv S g' env' uenv' S' ∧ Same A uenv uenv'
  | .stuck => True
theorem SatO.post {A : List Nat} {r : OP} {x : Out} (p : Post d m g env uenv S g' env' uenv' S') (s : Same A uenv uenv') (h : SatO d m g' env' uenv' S' A r x) : SatO d m g env uenv S A r x := by
  cases r with
  | nx e S => obtain ⟨a, b, c, q, e⟩ := h; exact ⟨a, b, c, p.trans q, s.trans e⟩
  | bk e S => obtain ⟨a, b, c, q, e⟩ := h; exact ⟨a, b, c, p.trans q, s.trans e⟩
  | ct e S => obtain ⟨a, b, c, q, e⟩ := h; exact ⟨a, b, c, p.trans q, s.trans e⟩
  | exc x e S => obtain ⟨a, b, c, q, e⟩ := h; exact ⟨a, b, c, p.trans q, s.trans e⟩
  | rt u e S => obtain ⟨a, b, c, f, q, e, t⟩ := h; exact ⟨a, b, c, f, p.trans q, s.trans e, t⟩
  | stuck => trivial
theorem SatO.expr {A : List Nat} {rel : Gh → α → β → Prop} {r : RP α} {x : R β} {f : α → VE → OS → OP} {h : β → Store → Out} (s : Sat d m g env uenv S rel r x)
    (k : ∀ g' env' S' a b, Post d m g env uenv S g' env' uenv S' → rel g' a b → SatO d m g' env' uenv S' A (f a env' S') (h b g'.S)) : SatO d m g env uenv S A (r.out f) (x.out uenv h) := by
  cases r with
  | val a env' S' => obtain ⟨g', b, rfl, p, q⟩ := s; exact .post p (.refl _ _) (k g' env' S' a b p q)
  | exc c env' S' => obtain ⟨g', rfl, p⟩ := s; exact ⟨g', uenv, rfl, p, .refl _ _⟩
  | stuck => trivial
theorem asg_any (I : Inv d g env uenv S) {t : Tg} {v : Vl} {u : U} {env1 : VE} (tm : Tm2 m g v u) (h : bindP t v env = some env1) : ∃ g1 uenv1, bindT t u uenv = some uenv1 ∧ g1.S = g.S ∧ Post d m g env uenv S g1 env1 uenv1 S ∧ ∀ j, j ∉ tgN t → uenv1[j]? = uenv[j]? := by
  cases t with
  | nm i =>
    cases h
    obtain ⟨g1, a, b, p⟩ := asg_nm I tm i
    exact ⟨g1, _, rfl, a, p, fun j hj => by
      rw [List.getElem?_set, if_neg (fun e => hj (by subst e; exact List.mem_singleton.mpr rfl))]⟩
  | tp ts =>
    cases v <;> first | (cases h; done) | skip
    obtain ⟨uenv1, a, b, c, e, _⟩ := bind_rep I (t := .tp ts) (tm.1.of_flat rfl) h
    exact ⟨g, uenv1, a, rfl, ⟨b, .refl g, c⟩, fun j hj => (e j hj).1⟩
theorem lookup_putF {f k : Nat} {v : Vl} : ∀ fs : List (Nat × Vl), (setfP.putF f v fs).lookup k = if k = f then some v else fs.lookup k
  | [] => by
    unfold setfP.putF
    by_cases e : k = f
    · subst e; simp
    · have : (k == f) = false := by simpa using e
      simp [List.lookup, this, e]
  | (a, w) :: r => by
    unfold setfP.putF
    by_cases e : a = f
    · subst e
      rw [if_pos rfl]
      by_cases e2 : k = a
      · subst e2; simp
      · have : (k == a) = false := by simpa using e2
        simp [List.lookup, this, e2]
    · rw [if_neg e]
      by_cases e2 : k = a
      · subst e2
        simp [List.lookup, e]
      · have : (k == a) = false := by simpa using e2
        simp only [List.lookup, this]
        exact lookup_putF r
theorem lookup_putU {f k : Nat} {v : U} : ∀ fs : List (Nat × U), (putU f v fs).lookup k = if k = f then some v else fs.lookup k
  | [] => by
    unfold putU
    by_cases e : k = f
    · subst e; simp
    · have : (k == f) = false := by simpa using e
      simp [List.lookup, this, e]
  | (a, w) :: r => by
    unfold putU
    by_cases e : a = f
    · subst e
      rw [if_pos rfl]
      by_cases e2 : k = a
      · subst e2; simp
      · have : (k == a) = false := by simpa using e2
        simp [List.lookup, this, e2]
    · rw [if_neg e]
      by_cases e2 : k = a
      · subst e2
        simp [List.lookup, e]
      · have : (k == a) = false := by simpa using e2
        simp only [List.lookup, this]
        exact lookup_putU r
theorem put_names {f : Nat} {v : Vl} {u : U} : ∀ {fs : List (Nat × Vl)} {ufs : List (Nat × U)}, ufs.map (·.1) = fs.map (·.1) → (putU f u ufs).map (·.1) = (setfP.putF f v fs).map (·.1)
  | [], ufs, h => by
    cases ufs with
    | nil => rfl
    | cons q r => cases h
  | (a, w) :: fs, ufs, h => by
    cases ufs with
    | nil => cases h
    | cons q ufs =>
      obtain ⟨b, x⟩ := q
      simp only [List.map_cons, List.cons.injEq] at h
      obtain ⟨rfl, h⟩ := h
      unfold putU setfP.putF
      by_cases e : b = f
      · rw [if_pos e, if_pos e, List.map_cons, List.map_cons, h]
      · rw [if_neg e, if_neg e, List.map_cons, List.map_cons, put_names h]
theorem set_same {St : Store} {l l' : Nat} {c : Cell} (h : l' ≠ l) : (St.set l c)[l']? = St[l']? := by
  rw [List.getElem?_set, if_neg (fun e => h e.symm)]
/-- a field is put -/
theorem setf_ok {fl : List (Nat × Nat)} {o f l : Nat} {v : Vl} {u : U} {S1 : OS} (I : Inv d g env uenv S) (t : Tm2 m g v u) (ho : g.om[o]? = some l) (h : setfP fl S o f v = some S1) : ∃ g1, setfU fl (.ref l) f u g.S = some g1.S ∧ Post d m g env uenv S g1 env uenv S1 := by
  unfold setfP at h
  split at h
  · rename_i c fs hS
    split at h
    · rename_i hlen
      cases h
      obtain ⟨l', ufs, h1, h2, h3, h4⟩ := I.ob o c fs hS
      rw [ho] at h1
      cases h1
      have hlt : l < g.S.length := (List.getElem?_eq_some_iff.mp h3).1
      have holt : o < S.length := (List.getElem?_eq_some_iff.mp hS).1
      -- first the kind, then the cell
      obtain ⟨g1, e1, e2, e3, hI1, sl⟩ : ∃ g1 : Gh, g1.S = g.S ∧ g1.om = g.om ∧ (Fro g g1 ∧ Ext d m g g1 ∧ g1.κ l = .o o) ∧ Inv d g1 env uenv S ∧ Sl g1 (.f o f) v u := by
        cases hk : kd v with
        | bad => exact (t.2 hk).elim
        | flat => exact ⟨g, rfl, rfl, ⟨.refl g, .refl g, h2⟩, I, .rep (t.1.of_flat hk)⟩
        | own =>
          obtain ⟨l0, rfl, hl, cc, hc⟩ := t.1.own_at hk
          have ch := g.up_chg l0 (.f o f)
          have n : g.κ l0 ≠ .fro := by rw [hl]; intro h; cases h
          have rl : Relab d g (g.up l0 (.f o f)) := by
            refine ⟨rfl, rfl, fun x e => ?_, fun x e => ?_, fun x p e => ?_, fun x o e => ?_, fun x e => ?_⟩ <;> rw [g.up_ne _ (fun e2 => by rw [e2, hl] at e; first | (cases e; done) | (cases p <;> cases e))] <;> exact e
          exact ⟨g.up l0 (.f o f), rfl, rfl, ⟨rl.frs, ch.ext n (by rw [hl]; exact not_prot_t) (by rw [g.up_at]; exact fun h => h), rl.obj l o h2⟩, I.relab rl, t.1.kindTo rl fun x hx _ => by cases hx; exact g.up_at l0 _⟩
      obtain ⟨f1, x1, k1⟩ := e3
      have ch := g1.cell_chg l (.ins c (putU f u ufs))
      have n : g1.κ l ≠ .fro := by rw [k1]; intro h; cases h
      have fr := ch.fro n
      have hg : ∀ p, p ≠ .fld o f → (∀ o' f', p = .fld o' f' → o' < S.length) → getU uenv (g1.cell l (.ins c (putU f u ufs))) p = getU uenv g1 p := fun p hp hb => by
        cases p with
        | var i => rfl
        | fld o' f' =>
          obtain ⟨c', fs', e⟩ : ∃ c' fs', S[o']? = some (c', fs') := ⟨_, _, List.getElem?_eq_getElem (hb o' f' rfl)⟩
          obtain ⟨l', ufs', q1, q2, q3, q4⟩ := hI1.ob o' c' fs' e
          simp only [getU]
          rw [show (g1.cell l (.ins c (putU f u ufs))).om = g1.om from rfl, q1]
          simp only
          by_cases eo : o' = o
          · subst eo
            rw [e2, ho] at q1
            cases q1
            rw [e1, h3] at q3
            cases q3
            have : (g1.cell l (.ins c (putU f u ufs))).S[l]? = some (.ins c (putU f u ufs)) := by
              show (g1.S.set l _)[l]? = _
              rw [List.getElem?_set, if_pos rfl, if_pos (by rw [e1]; exact hlt)]
            rw [this, e1, h3]
            simp only
            rw [lookup_putU, if_neg (fun e => hp (by rw [e]))]
          · have hne : l' ≠ l := fun e => by
              rw [e, k1] at q2
              cases q2
              exact eo rfl
            rw [show (g1.cell l (.ins c (putU f u ufs))).S[l']? = g1.S[l']? from set_same hne]
      have hgp : ∀ p w, getP env (S.set o (c, setfP.putF f v fs)) p = some w → p ≠ .fld o f → getP env S p = some w := fun p w e hp => by
        cases p with
        | var i => exact e
        | fld o' f' =>
          have e : getF (S.set o (c, setfP.putF f v fs)) o' f' = some w := e
          show getF S o' f' = _
          unfold getF at e ⊢
          rw [List.getElem?_set] at e
          by_cases eo : o = o'
          · subst eo
            rw [if_pos rfl, if_pos holt] at e
            simp only at e
            rw [lookup_putF, if_neg (fun e => hp (by rw [e]))] at e
            rw [hS]
            exact e
          · rw [if_neg eo] at e
            exact e
      have hlen1 : (ufs.length < 1000) := by
        have := congrArg List.length h4
        rw [List.length_map, List.length_map] at this
        omega
      obtain ⟨hlen, hfl⟩ := hlen
      refine ⟨g1.cell l (.ins c (putU f u ufs)), ?_, ⟨⟨fun p w e => ?_, hI1.el, ?_, fun o' c' fs' e => ?_, fun x e => ?_⟩, ?_, fun p w e k => ?_⟩⟩
      · simp only [setfU, h3, hlen1, hfl, true_and, if_true]
        show some _ = some (g1.S.set l _)
        rw [e1]
      · by_cases hp : p = .fld o f
        · subst hp
          have e : getF (S.set o (c, setfP.putF f v fs)) o f = some w := e
          unfold getF at e
          rw [List.getElem?_set, if_pos rfl, if_pos holt] at e
          simp only at e
          rw [lookup_putF, if_pos rfl] at e
          cases e
          refine ⟨u, ?_, sl.mono fr fun x _ k => ch.ne x fun e => ?_⟩
          · simp only [getU]
            rw [show (g1.cell l (.ins c (putU f u ufs))).om = g1.om from rfl, e2, ho]
            simp only
            rw [show (g1.cell l (.ins c (putU f u ufs))).S[l]? = some (.ins c (putU f u ufs)) from by
              show (g1.S.set l _)[l]? = _
              rw [List.getElem?_set, if_pos rfl, if_pos (by rw [e1]; exact hlt)]]
            simp only
            rw [lookup_putU, if_pos rfl]
          · rw [e, k1] at k
            rcases k with k | k <;> cases k
        · have e' := hgp p w e hp
          obtain ⟨x, hx, s⟩ := hI1.pl p w e'
          refine ⟨x, (hg p hp (getP_lt e')).trans hx, s.mono fr fun y _ k => ch.ne y fun e => ?_⟩
          rw [e, k1] at k
          rcases k with k | k
          · cases p <;> cases k
          · cases k
      · rw [List.length_set]; exact hI1.ol
      · rw [List.getElem?_set] at e
        by_cases eo : o = o'
        · subst eo
          rw [if_pos rfl, if_pos holt] at e
          cases e
          refine ⟨l, putU f u ufs, by show g1.om[o]? = _; rw [e2]; exact ho, k1, ?_, put_names h4⟩
          show (g1.S.set l _)[l]? = _
          rw [List.getElem?_set, if_pos rfl, if_pos (by rw [e1]; exact hlt)]
        · rw [if_neg eo] at e
          obtain ⟨l', ufs', q1, q2, q3, q4⟩ := hI1.ob o' c' fs' e
          have hne : l' ≠ l := fun e => by
            rw [e, k1] at q2
            cases q2
            exact eo rfl
          exact ⟨l', ufs', q1, q2, (set_same hne).trans q3, q4⟩
      · rw [ch.len] at e
        exact hI1.gar x e
      · exact x1.trans (ch.ext n (by rw [k1]; exact fun h => h) (by rw [show (g1.cell l (.ins c (putU f u ufs))).κ l = g1.κ l from rfl, k1]; exact fun h => h))
      · by_cases hp : p = .fld o f
        · subst hp
          have e : getF (S.set o (c, setfP.putF f v fs)) o f = some w := e
          unfold getF at e
          rw [List.getElem?_set, if_pos rfl, if_pos holt] at e
          simp only at e
          rw [lookup_putF, if_pos rfl] at e
          cases e
          exact (t.2 k).elim
        · have e' := hgp p w e hp
          refine ⟨e', (hg p hp (getP_lt e')).trans ?_⟩
          cases p with
          | var i => rfl
          | fld o' f' => simp only [getU, e1, e2]
    · cases h
  · cases h
theorem seti_ok2 {us us1 : List Vl} {uws : List U} {k x : Vl} {uk ux : U} {l : Nat} (hS : g.S[l]? = some (.lst uws)) (r : RepL g us uws) (bk : Br g k uk) (rx : Rep g x ux) (e : setiP us k x = some us1) : ∃ uws1, setiU (.ref l) uk ux g.S = some (g.S.set l (.lst uws1)) ∧ RepL g us1 uws1 := by
  unfold setiP at e
  split at e
  · cases bk.int'
    simp only [setiU, hS, r.len]
    split at e
    · rename_i h1
      rw [if_pos h1]
      split at e
      · rename_i h2
        cases e
        rw [if_pos h2]
        exact ⟨_, rfl, r.set rx _⟩
      · cases e
    · rename_i h1
      rw [if_neg h1]
      split at e
      · rename_i h2
        cases e
        rw [if_pos h2]
        exact ⟨_, rfl, r.set rx _⟩
      · cases e
  · cases e
end
end PyM
set_option linter.all false
set_option autoImplicit false
set_option maxRecDepth 100000
set_option maxHeartbeats 1000000
/-! The pure machine keeps what the small machine does: the whole. -/
namespace PyM
open PyI
section
variable {d m M : Nat} {g g' g'' : Gh} {env env' env'' : VE} {uenv uenv' uenv'' : Env} {S S' S'' : OS} {α β γ δ : Type}
variable {P : Pg} {pcf : Nat → List Vl → OS → RC} {ucf : Nat → List U → Store → R U} {n : Nat}
theorem SatO.le {A : List Nat} {r : OP} {x : Out} {m' : Nat} (h : SatO d m' g env uenv S A r x) (e : m ≤ m') (hr : ∀ u e S, r ≠ .rt u e S) : SatO d m g env uenv S A r x := by
  cases r with
  | nx e' S => obtain ⟨a, b, c, q, s⟩ := h; exact ⟨a, b, c, q.le e, s⟩
  | bk e' S => obtain ⟨a, b, c, q, s⟩ := h; exact ⟨a, b, c, q.le e, s⟩
  | ct e' S => obtain ⟨a, b, c, q, s⟩ := h; exact ⟨a, b, c, q.le e, s⟩
  | exc x e' S => obtain ⟨a, b, c, q, s⟩ := h; exact ⟨a, b, c, q.le e, s⟩
  | rt u e' S => exact (hr u e' S rfl).elim
  | stuck => trivial
theorem Inv.lower (I : Inv d g env uenv S) {v : Vl} {u : U} {m' : Nat} (t : Tm2 m' g v u) (hm : m ≤ m') : ∃ g1, g1.S = g.S ∧ Post d m g env uenv S g1 env uenv S ∧ Tm2 m g1 v u := by
  cases hk : kd v with
  | bad => exact (t.2 hk).elim
  | flat => exact ⟨g, rfl, I.post, Tm2.rep (t.1.of_flat hk)⟩
  | own =>
    obtain ⟨l, rfl, hl, cc, hc⟩ := t.1.own_at hk
    have ch := g.up_chg l (.t m)
    have n : g.κ l ≠ .fro := by rw [hl]; intro h; cases h
    have rl : Relab d g (g.up l (.t m)) := by
      refine ⟨rfl, rfl, fun x e => ?_, fun x e => ?_, fun x p e => ?_, fun x o e => ?_, fun x e => ?_⟩ <;> rw [g.up_ne _ (fun e2 => by rw [e2, hl] at e; first | (cases e; done) | (cases p <;> cases e))] <;> exact e
    exact ⟨g.up l (.t m), rfl, ⟨I.relab rl, ch.ext n (by rw [hl]; exact fun h => absurd h (by show ¬ m' < m; omega)) (by rw [g.up_at]; exact not_prot_t), .relab rl⟩, t.1.kindTo rl fun x hx _ => by cases hx; exact g.up_at l _, t.2⟩
/-- the end of what is lent for a loop -/
theorem endO_ok {A : List Nat} {ps : List Pl} {r : OP} {x : Out} (bk : Back d (m + 2) m g env uenv S g' env' uenv S' ps) (h : SatO d (m + 2) g' env' uenv S' A r x) : SatO d m g env uenv S A (endO ps r) x := by
  cases r with
  | stuck => trivial
  | nx e1 S1 =>
    obtain ⟨g2, u2, e, q, s⟩ := h
    show SatO _ _ _ _ _ _ _ ((unlends ps e1 S1).out _) _
    rcases unlends_cases ps e1 S1 with hc | ⟨e3, S3, hc⟩ <;> rw [hc]
    · trivial
    · obtain ⟨g3, a1, a2, a3, p3⟩ := bk g2 e1 u2 S1 e3 S3 q hc
      exact ⟨g3, u2, by rw [e, a1], p3, s⟩
  | bk e1 S1 =>
    obtain ⟨g2, u2, e, q, s⟩ := h
    show SatO _ _ _ _ _ _ _ ((unlends ps e1 S1).out _) _
    rcases unlends_cases ps e1 S1 with hc | ⟨e3, S3, hc⟩ <;> rw [hc]
    · trivial
    · obtain ⟨g3, a1, a2, a3, p3⟩ := bk g2 e1 u2 S1 e3 S3 q hc
      exact ⟨g3, u2, by rw [e, a1], p3, s⟩
  | ct e1 S1 =>
    obtain ⟨g2, u2, e, q, s⟩ := h
    show SatO _ _ _ _ _ _ _ ((unlends ps e1 S1).out _) _
    rcases unlends_cases ps e1 S1 with hc | ⟨e3, S3, hc⟩ <;> rw [hc]
    · trivial
    · obtain ⟨g3, a1, a2, a3, p3⟩ := bk g2 e1 u2 S1 e3 S3 q hc
      exact ⟨g3, u2, by rw [e, a1], p3, s⟩
  | exc c e1 S1 =>
    obtain ⟨g2, u2, e, q, s⟩ := h
    show SatO _ _ _ _ _ _ _ ((unlends ps e1 S1).out _) _
    rcases unlends_cases ps e1 S1 with hc | ⟨e3, S3, hc⟩ <;> rw [hc]
    · trivial
    · obtain ⟨g3, a1, a2, a3, p3⟩ := bk g2 e1 u2 S1 e3 S3 q hc
      exact ⟨g3, u2, by rw [e, a1], p3, s⟩
  | rt v e1 S1 =>
    obtain ⟨g2, u2, b, e, q, s, t⟩ := h
    show SatO _ _ _ _ _ _ _ ((unlends ps e1 S1).out _) _
    rcases unlends_cases ps e1 S1 with hc | ⟨e3, S3, hc⟩ <;> rw [hc]
    · trivial
    · obtain ⟨g3, a1, a2, a3, p3⟩ := bk g2 e1 u2 S1 e3 S3 q hc
      have t3 : Tm2 (m + 2) g3 v b := t.relab a1 a2 fun l hl => a3 l (by rcases hl with hl | hl <;> rw [hl] <;> intro h <;> cases h)
      obtain ⟨g4, f1, p4, t4⟩ := p3.inv.lower (m := m) t3 (by omega)
      exact ⟨g4, u2, b, by rw [e, f1, a1], p3.trans p4, s, t4⟩
def BlkOk2 (d m : Nat) (A : List Nat) (b : VE → OS → OP) (ub : Env → Store → Out) : Prop := ∀ (g : Gh) (env : VE) (uenv : Env) (S : OS), Inv d g env uenv S → SatO d m g env uenv S A (b env S) (ub uenv g.S)
theorem loopF_ok {A : List Nat} {t : Tg} {b : VE → OS → OP} {ub : Env → Store → Out} (hb : BlkOk2 d M A b ub) (ht : ∀ j ∈ tgN t, j ∈ A) {w : List (Nat × List U)} : ∀ (items : List Vl) (uitems : List U) (g : Gh) (env : VE) (uenv : Env) (S : OS), RepL g items uitems → Inv d g env uenv S → (∀ p ∈ w, itemsU g.S (.ref p.1) = some p.2 ∧ Safe d M g p.1) →
    SatO d M g env uenv S A (loopFP t b items env S) (loopF t ub w uitems uenv g.S)
  | [], uitems, g, env, uenv, S, ri, I, hw => by
    cases ri
    unfold loopFP loopF
    rw [okW_of fun p hp => (hw p hp).1]
    exact ⟨g, uenv, rfl, I.post, .refl _ _⟩
  | v :: items, uitems, g, env, uenv, S, ri, I, hw => by
    cases ri with
    | @cons _ u _ us rv ri =>
      unfold loopFP loopF
      rw [okW_of fun p hp => (hw p hp).1]
      simp only [if_true]
      cases hbd : bindP t v env with
      | none => trivial
      | some env1 =>
        obtain ⟨uenv1, e1, I1, ls1, ag1, len1⟩ := bind_rep I rv hbd
        rw [e1]
        simp only
        have P1 : Post d M g env uenv S g env1 uenv1 S := ⟨I1, .refl g, ls1⟩
        have s1 : Same A uenv uenv1 := fun j hj => (ag1 j fun h => hj (ht j h)).1
        have B := hb g env1 uenv1 S I1
        have go : ∀ (g2 : Gh) (env2 : VE) (uenv2 : Env) (S2 : OS), Post d M g env1 uenv1 S g2 env2 uenv2 S2 → Same A uenv1 uenv2 → SatO d M g env uenv S A (loopFP t b items env2 S2) (loopF t ub w us uenv2 g2.S) := fun g2 env2 uenv2 S2 P2 s2 =>
          .post (P1.trans P2) (s1.trans s2) (loopF_ok hb ht items us g2 env2 uenv2 S2 (ri.mono P2.ext.fro) P2.inv fun p hp => by
            obtain ⟨a, s⟩ := hw p hp
            obtain ⟨x, y⟩ := s.ext P2.ext
            exact ⟨by rw [items_same y]; exact a, x⟩)
        cases hr : b env1 S with
        | stuck => trivial
        | nx env2 S2 =>
          rw [hr] at B
          obtain ⟨g2, u2, e2, P2, s2⟩ := B
          rw [e2]
          exact go g2 env2 u2 S2 P2 s2
        | ct env2 S2 =>
          rw [hr] at B
          obtain ⟨g2, u2, e2, P2, s2⟩ := B
          rw [e2]
          exact go g2 env2 u2 S2 P2 s2
        | bk env2 S2 =>
          rw [hr] at B
          obtain ⟨g2, u2, e2, P2, s2⟩ := B
          rw [e2]
          exact ⟨g2, u2, rfl, P1.trans P2, s1.trans s2⟩
        | rt v env2 S2 =>
          rw [hr] at B
          obtain ⟨g2, u2, x, e2, P2, s2, t2⟩ := B
          rw [e2]
          exact ⟨g2, u2, x, rfl, P1.trans P2, s1.trans s2, t2⟩
        | exc c env2 S2 =>
          rw [hr] at B
          obtain ⟨g2, u2, e2, P2, s2⟩ := B
          rw [e2]
          exact ⟨g2, u2, rfl, P1.trans P2, s1.trans s2⟩
theorem loopW_ok {A : List Nat} {c : VE → OS → RP Bool} {uc : Env → Store → R Bool} {b : VE → OS → OP} {ub : Env → Store → Out} (hc : ∀ g env uenv S, Inv d g env uenv S → Sat d m g env uenv S (fun _ a b => a = b) (c env S) (uc uenv g.S)) (hb : BlkOk2 d m A b ub) : ∀ (k : Nat) (g : Gh) (env : VE) (uenv : Env) (S : OS), Inv d g env uenv S →
    SatO d m g env uenv S A (loopWP c b k env S) (loopW uc ub k uenv g.S)
  | 0, g, env, uenv, S, I => trivial
  | k + 1, g, env, uenv, S, I => by
    unfold loopWP loopW
    refine .expr (hc g env uenv S I) fun g1 env1 S1 x y P1 e => ?_
    subst e
    cases x with
    | false => exact ⟨g1, uenv, rfl, P1.inv.post, .refl _ _⟩
    | true =>
      simp only [if_true]
      have B := hb g1 env1 uenv S1 P1.inv
      cases hr : b env1 S1 with
      | stuck => trivial
      | nx env2 S2 =>
        rw [hr] at B
        obtain ⟨g2, u2, e2, P2, s2⟩ := B
        rw [e2]
        exact .post P2 s2 (loopW_ok hc hb k g2 env2 u2 S2 P2.inv)
      | ct env2 S2 =>
        rw [hr] at B
        obtain ⟨g2, u2, e2, P2, s2⟩ := B
        rw [e2]
        exact .post P2 s2 (loopW_ok hc hb k g2 env2 u2 S2 P2.inv)
      | bk env2 S2 =>
        rw [hr] at B
        obtain ⟨g2, u2, e2, P2, s2⟩ := B
        rw [e2]
        exact ⟨g2, u2, rfl, P2, s2⟩
      | rt v env2 S2 =>
        rw [hr] at B
        obtain ⟨g2, u2, x, e2, P2, s2, t2⟩ := B
        rw [e2]
        exact ⟨g2, u2, x, rfl, P2, s2, t2⟩
      | exc c env2 S2 =>
        rw [hr] at B
        obtain ⟨g2, u2, e2, P2, s2⟩ := B
        rw [e2]
        exact ⟨g2, u2, rfl, P2, s2⟩
def OkS2 (P : Pg) (pcf : Nat → List Vl → OS → RC) (ucf : Nat → List U → Store → R U) (n : Nat) (s : St) : Prop := ∀ (A : List Nat), (∀ j ∈ asgS s, j ∈ A) → ∀ (d m : Nat), BlkOk2 d m A (exP P pcf n s) (ex P ucf n s)
def OkSs2 (P : Pg) (pcf : Nat → List Vl → OS → RC) (ucf : Nat → List U → Store → R U) (n : Nat) (s : Sts) : Prop := ∀ (A : List Nat), (∀ j ∈ asgSs s, j ∈ A) → ∀ (d m : Nat), BlkOk2 d m A (exsP P pcf n s) (exs P ucf n s)
theorem evt_ok (hc : CallOk P pcf ucf) (e : E) (I : Inv d g env uenv S) : Sat d m g env uenv S (fun _ a b => a = b) (evtP P pcf e env S) (evt P ucf e uenv g.S) := by
  unfold evtP evt
  refine Sat.bind (okX hc e d m g env uenv S I).1 fun g1 env1 S1 v u p br => ?_
  cases h : truP v with
  | none => trivial
  | some c => unfold tru; rw [tru_ok2 br h]; exact .val p.inv rfl
theorem s_setf (hc : CallOk P pcf ucf) (o : E) (f : Nat) (e : E) : OkS2 P pcf ucf n (.setf o f e) := fun A hA d m g env uenv S I => by
  unfold exP ex
  cases hq : quiet o with
  | false => trivial
  | true =>
    simp only [if_true]
    refine .expr (okX hc e d m g env uenv S I).2 fun g1 env1 S1 v u P1 t => ?_
    have s := (okX hc o d (m + 1) g1 env1 uenv S1 P1.inv).1
    cases hr : evP P pcf false o env1 S1 with
    | stuck => trivial
    | exc c env2 S2 => rw [hr] at s; obtain ⟨g2, e2, p2⟩ := s; rw [e2]; exact ⟨g2, uenv, rfl, p2.le (by omega), .refl _ _⟩
    | val x env2 S2 =>
      rw [hr] at s
      obtain ⟨g2, y, e2, p2, br⟩ := s
      rw [e2]
      simp only [RP.out, R.out]
      have t2 := t.held p2.ext (by omega)
      cases x <;> first | trivial | skip
      rename_i k
      obtain ⟨l, rfl, hl⟩ := br.obj'
      simp only
      cases hs : setfP P.flds S2 k f v with
      | none => trivial
      | some S3 =>
        obtain ⟨g3, e3, p3⟩ := setf_ok p2.inv t2 hl hs
        rw [e3]
        exact ⟨g3, uenv, rfl, (p2.le (by omega)).trans p3, .refl _ _⟩
theorem s_augf (hc : CallOk P pcf ucf) (o : E) (f : Nat) (p : Bop) (e : E) : OkS2 P pcf ucf n (.augf o f p e) := fun A hA d m g env uenv S I => by
  unfold exP ex
  cases hq : quiet e with
  | false => trivial
  | true =>
    simp only [if_true]
    refine .expr (okX hc o d m g env uenv S I).1 fun g1 env1 S1 v u P1 br => ?_
    cases v <;> first | trivial | skip
    rename_i k
    obtain ⟨l, rfl, hl⟩ := br.obj'
    simp only
    split
    · rename_i a hf
      obtain ⟨x, hx, sl⟩ := P1.inv.pl (.fld k f) _ hf
      cases (sl.br (by intro h; cases h)).int'
      simp only [getU, hl] at hx
      split at hx
      · rename_i c ufs hcell
        try rw [hcell]
        simp only [hx]
        refine .expr (okX hc e d m g1 env1 uenv S1 P1.inv).1 fun g2 env2 S2 w y P2 b2 => ?_
        have hl2 := pre_get P2.ext.fro.om hl
        split
        · rename_i hcl
          obtain ⟨hcls1, hcls2⟩ : clsP S1 k = some c ∧ True := by
            refine ⟨?_, trivial⟩
            unfold getF at hf
            split at hf
            · rename_i c' fs hS
              obtain ⟨l', ufs', q1, q2, q3, q4⟩ := P1.inv.ob k c' fs hS
              rw [hl] at q1
              cases q1
              rw [hcell] at q3
              cases q3
              unfold clsP
              rw [hS]
            · cases hf
          have hu : clsU g2.S l = some c := by
            rw [hcls1] at hcl
            unfold clsP at hcl
            split at hcl
            · rename_i c' fs hS
              cases hcl
              obtain ⟨l', ufs', q1, q2, q3, q4⟩ := P2.inv.ob k c fs hS
              rw [hl2] at q1
              cases q1
              unfold clsU
              rw [q3]
            · cases hcl
          rw [if_pos hu]
          cases w <;> first | (cases p <;> trivial) | skip
          rename_i b
          cases b2.int'
          cases p <;> first | trivial | skip
          · simp only [augU]
            cases hs : setfP P.flds S2 k f (.int (a + b)) with
            | none => trivial
            | some S3 =>
              obtain ⟨g3, e3, p3⟩ := setf_ok (m := m) P2.inv (Tm2.rep (.int (a + b))) hl2 hs
              rw [e3]
              exact ⟨g3, uenv, rfl, p3, .refl _ _⟩
          · simp only [augU]
            cases hs : setfP P.flds S2 k f (.int (a - b)) with
            | none => trivial
            | some S3 =>
              obtain ⟨g3, e3, p3⟩ := setf_ok (m := m) P2.inv (Tm2.rep (.int (a - b))) hl2 hs
              rw [e3]
              exact ⟨g3, uenv, rfl, p3, .refl _ _⟩
        · trivial
      · cases hx
    · trivial
theorem s_seti (hc : CallOk P pcf ucf) (o i e : E) : OkS2 P pcf ucf n (.seti o i e) := fun A hA d m g env uenv S I => by
  unfold exP ex
  cases hq : quiet o && quiet i with
  | false => trivial
  | true =>
    simp only [if_true]
    refine .expr (okX hc e d m g env uenv S I).2 fun g1 env1 S1 v u P1 t => ?_
    cases hp : plc env1 S1 o with
    | none => trivial
    | some p =>
      simp only
      cases h0 : getP env1 S1 p with
      | none => trivial
      | some v0 =>
        cases hm : ownB (some v0) with
        | false => simp only [Bool.false_eq_true, if_false]; trivial
        | true =>
          simp only [if_true]
          unfold ownB at hm
          split at hm
          · rename_i ws e0
            cases e0
            obtain ⟨y, hu, sl⟩ := P1.inv.pl p _ h0
            cases sl with
            | rep r => cases r
            | @own l _ us hl hS rw_ =>
              rw [plc_ev P1.inv hp hu]
              simp only [R.out]
              have s := (okX hc i d (m + 1) g1 env1 uenv S1 P1.inv).1
              cases hr : evP P pcf false i env1 S1 with
              | stuck => trivial
              | exc c env2 S2 => rw [hr] at s; obtain ⟨g2, e2, p2⟩ := s; rw [e2]; exact ⟨g2, uenv, rfl, p2.le (by omega), .refl _ _⟩
              | val k env2 S2 =>
                rw [hr] at s
                obtain ⟨g2, uk, e2, p2, bk⟩ := s
                rw [e2]
                simp only [RP.out]
                obtain ⟨T, hT⟩ := quiet_adds P ucf i uenv g1.S (q2 hq).2 uk g2.S e2
                have hu2 := getU_adds hu p2.ext.fro hT
                obtain ⟨g3, f1, f2, P3, r3, f3⟩ := freeze p2.inv (t.held p2.ext (by omega))
                have hu3 : getU uenv g3 p = some (.ref l) := by
                  cases p with
                  | var i => exact hu2
                  | fld o f => simp only [getU, f1, f2] at hu2 ⊢; exact hu2
                unfold setAt
                split
                · rename_i us2 h2
                  obtain ⟨y', hy', sl'⟩ := P3.inv.pl p _ h2
                  rw [hu3] at hy'
                  cases hy'
                  cases sl' with
                  | rep r => cases r
                  | own hl' hS' rw' =>
                    split
                    · rename_i us1 hset
                      have bk3 : Br g3 k uk := bk.adds P3.ext.fro (T := []) (by rw [f1]; simp)
                      obtain ⟨uws1, e4, rw1⟩ := seti_ok2 hS' rw' bk3 r3 hset
                      have P4 := put_cell (m := m) P3.inv h2 hu3 hl' (List.getElem?_eq_some_iff.mp hS').1 rw1
                      refine ⟨g3.cell l (.lst uws1), uenv, ?_, (p2.le (by omega)).trans (P3.trans P4), .refl _ _⟩
                      rw [← f1, e4]; rfl
                    · trivial
                · rename_i kvs h2
                  obtain ⟨y', hy', sl'⟩ := P3.inv.pl p _ h2
                  rw [hu3] at hy'
                  cases hy'
                  cases sl' with
                  | rep r => cases r
                  | @ownD _ _ ukvs hl' hS' rw' =>
                    split
                    · rename_i kk hk
                      split
                      · rename_i hz
                        have bk3 : Br g3 k uk := bk.adds P3.ext.fro (T := []) (by rw [f1]; simp)
                        have P4 := put_cellD (m := m) P3.inv h2 hu3 hl' (List.getElem?_eq_some_iff.mp hS').1 (rw'.put kk r3)
                        refine ⟨g3.cell l (.dct _), uenv, ?_, (p2.le (by omega)).trans (P3.trans P4), .refl _ _⟩
                        rw [← f1]
                        simp only [setiU, hS', key_br bk3 hk, rw'.len, hz, if_true]
                        rfl
                      · trivial
                    · trivial
                · trivial
          · rename_i ws e0
            cases e0
            obtain ⟨y, hu, sl⟩ := P1.inv.pl p _ h0
            cases sl with
            | rep r => cases r
            | @ownD l _ us hl hS rw_ =>
              rw [plc_ev P1.inv hp hu]
              simp only [R.out]
              have s := (okX hc i d (m + 1) g1 env1 uenv S1 P1.inv).1
              cases hr : evP P pcf false i env1 S1 with
              | stuck => trivial
              | exc c env2 S2 => rw [hr] at s; obtain ⟨g2, e2, p2⟩ := s; rw [e2]; exact ⟨g2, uenv, rfl, p2.le (by omega), .refl _ _⟩
              | val k env2 S2 =>
                rw [hr] at s
                obtain ⟨g2, uk, e2, p2, bk⟩ := s
                rw [e2]
                simp only [RP.out]
                obtain ⟨T, hT⟩ := quiet_adds P ucf i uenv g1.S (q2 hq).2 uk g2.S e2
                have hu2 := getU_adds hu p2.ext.fro hT
                obtain ⟨g3, f1, f2, P3, r3, f3⟩ := freeze p2.inv (t.held p2.ext (by omega))
                have hu3 : getU uenv g3 p = some (.ref l) := by
                  cases p with
                  | var i => exact hu2
                  | fld o f => simp only [getU, f1, f2] at hu2 ⊢; exact hu2
                unfold setAt
                split
                · rename_i us2 h2
                  obtain ⟨y', hy', sl'⟩ := P3.inv.pl p _ h2
                  rw [hu3] at hy'
                  cases hy'
                  cases sl' with
                  | rep r => cases r
                  | own hl' hS' rw' =>
                    split
                    · rename_i us1 hset
                      have bk3 : Br g3 k uk := bk.adds P3.ext.fro (T := []) (by rw [f1]; simp)
                      obtain ⟨uws1, e4, rw1⟩ := seti_ok2 hS' rw' bk3 r3 hset
                      have P4 := put_cell (m := m) P3.inv h2 hu3 hl' (List.getElem?_eq_some_iff.mp hS').1 rw1
                      refine ⟨g3.cell l (.lst uws1), uenv, ?_, (p2.le (by omega)).trans (P3.trans P4), .refl _ _⟩
                      rw [← f1, e4]; rfl
                    · trivial
                · rename_i kvs h2
                  obtain ⟨y', hy', sl'⟩ := P3.inv.pl p _ h2
                  rw [hu3] at hy'
                  cases hy'
                  cases sl' with
                  | rep r => cases r
                  | @ownD _ _ ukvs hl' hS' rw' =>
                    split
                    · rename_i kk hk
                      split
                      · rename_i hz
                        have bk3 : Br g3 k uk := bk.adds P3.ext.fro (T := []) (by rw [f1]; simp)
                        have P4 := put_cellD (m := m) P3.inv h2 hu3 hl' (List.getElem?_eq_some_iff.mp hS').1 (rw'.put kk r3)
                        refine ⟨g3.cell l (.dct _), uenv, ?_, (p2.le (by omega)).trans (P3.trans P4), .refl _ _⟩
                        rw [← f1]
                        simp only [setiU, hS', key_br bk3 hk, rw'.len, hz, if_true]
                        rfl
                      · trivial
                    · trivial
                · trivial
          · cases hm
theorem s_del (hc : CallOk P pcf ucf) (o i : E) : OkS2 P pcf ucf n (.del o i) := fun A hA d m g env uenv S I => by
  unfold exP ex
  cases hq : quiet o && quiet i with
  | false => trivial
  | true =>
    simp only [if_true]
    cases hp : plc env S o with
    | none => trivial
    | some p =>
      simp only
      cases h0 : getP env S p with
      | none => trivial
      | some v0 =>
        cases hm : ownB (some v0) with
        | false => simp only [Bool.false_eq_true, if_false]; trivial
        | true =>
          simp only [if_true]
          obtain ⟨y, hu, sl⟩ := I.pl p _ h0
          have hl : ∃ l, y = .ref l := by
            unfold ownB at hm
            split at hm
            · rename_i ws e0; cases e0; cases sl with
              | rep r => cases r
              | own a b c => exact ⟨_, rfl⟩
            · rename_i ws e0; cases e0; cases sl with
              | rep r => cases r
              | ownD a b c => exact ⟨_, rfl⟩
            · cases hm
          obtain ⟨l, rfl⟩ := hl
          rw [plc_ev I hp hu]
          simp only [R.out]
          have s := (okX hc i d m g env uenv S I).1
          cases hr : evP P pcf false i env S with
          | stuck => trivial
          | exc c env2 S2 => rw [hr] at s; obtain ⟨g2, e2, p2⟩ := s; rw [e2]; exact ⟨g2, uenv, rfl, p2, .refl _ _⟩
          | val k env2 S2 =>
            rw [hr] at s
            obtain ⟨g2, uk, e2, p2, bk⟩ := s
            rw [e2]
            simp only [RP.out]
            obtain ⟨T, hT⟩ := quiet_adds P ucf i uenv g.S (q2 hq).2 uk g2.S e2
            have hu2 := getU_adds hu p2.ext.fro hT
            unfold delAt
            split
            · rename_i kvs h2
              obtain ⟨y', hy', sl'⟩ := p2.inv.pl p _ h2
              rw [hu2] at hy'
              cases hy'
              cases sl' with
              | rep r => cases r
              | @ownD _ _ ukvs hl' hS' rw' =>
                split
                · rename_i kk hk
                  split
                  · rename_i hz
                    have P4 := put_cellD (m := m) p2.inv h2 hu2 hl' (List.getElem?_eq_some_iff.mp hS').1 (rw'.drop kk)
                    refine ⟨g2.cell l (.dct _), uenv, ?_, p2.trans P4, .refl _ _⟩
                    have hz2 : (getK kk ukvs).isSome = true := by
                      rcases rw'.get kk with ⟨e1, e2⟩ | ⟨v', u, e1, e2, _⟩
                      · rw [e1] at hz; cases hz
                      · rw [e2]; rfl
                    simp only [delU, hS', key_br bk hk, hz2, if_true]
                    rfl
                  · trivial
                · trivial
            · trivial
theorem Inv.post_kill {d m : Nat} {g : Gh} {env : VE} {uenv : Env} {S : OS} (I : Inv d g env uenv S) (ks : List Nat) : Post d m g env uenv S g (wipeP env ks) uenv S := by
  have sub : ∀ p v, getP (wipeP env ks) S p = some v → getP env S p = some v := fun p v h => by
    cases p with
    | var j =>
      have h : (wipeP env ks)[j]?.join = some v := h
      rw [wipeP_at] at h
      split at h
      · cases h
      · exact h
    | fld o f => exact h
  exact ⟨⟨fun p v h => I.pl p v (sub p v h), by rw [wipeP_len]; exact I.el, I.ol, I.ob, I.gar⟩, .refl g, fun p v h _ => ⟨sub p v h, rfl⟩⟩
mutual
theorem okS2 (hc : CallOk P pcf ucf) : ∀ s : St, OkS2 P pcf ucf n s
  | .asg t e => fun A hA d m g env uenv S I => by
    unfold exP ex
    refine .expr (okX hc e d m g env uenv S I).2 fun g1 env1 S1 v u P1 tm => ?_
    cases hb : bindP t v env1 with
    | none => trivial
    | some env2 =>
      obtain ⟨g2, uenv2, e2, f2, P2, s2⟩ := asg_any P1.inv tm hb
      rw [e2, ← f2]
      exact ⟨g2, uenv2, rfl, P2, fun j hj => s2 j fun h => hj (hA j (by unfold asgS; exact h))⟩
  | .setf o f e => s_setf hc o f e
  | .seti o i e => s_seti hc o i e
  | .aug i o e => fun A hA d m g env uenv S I => by
    unfold exP ex
    split
    · rename_i a h
      obtain ⟨u, hu, sl⟩ := I.pl (.var i) _ h
      have hu2 : uenv[i]?.join = some u := hu
      rw [join_some] at hu2
      cases (sl.br (by intro h; cases h)).int'
      rw [hu2]
      refine .expr (okX hc e d m g env uenv S I).1 fun g1 env1 S1 w y P1 b1 => ?_
      cases w <;> first | (cases o <;> trivial) | skip
      rename_i b
      cases b1.int'
      cases o <;> first | trivial | skip
      · obtain ⟨g2, a1, a2, p2⟩ := asg_nm (m := m) P1.inv (Tm2.rep (.int (a + b))) i
        refine ⟨g2, _, by rw [a1], p2, fun j hj => ?_⟩
        rw [List.getElem?_set, if_neg (fun e => hj (hA j (by unfold asgS; subst e; exact List.mem_singleton.mpr rfl)))]
      · obtain ⟨g2, a1, a2, p2⟩ := asg_nm (m := m) P1.inv (Tm2.rep (.int (a - b))) i
        refine ⟨g2, _, by rw [a1], p2, fun j hj => ?_⟩
        rw [List.getElem?_set, if_neg (fun e => hj (hA j (by unfold asgS; subst e; exact List.mem_singleton.mpr rfl)))]
    · trivial
  | .augf o f p e => s_augf hc o f p e
  | .exp e => fun A hA d m g env uenv S I => by
    unfold exP ex
    exact .expr (okX hc e d m g env uenv S I).1 fun g1 env1 S1 v u P1 tm => ⟨g1, uenv, rfl, P1.inv.post, .refl _ _⟩
  | .ret e => fun A hA d m g env uenv S I => by
    unfold exP ex
    exact .expr (okX hc e d m g env uenv S I).2 fun g1 env1 S1 v u P1 tm => ⟨g1, uenv, u, rfl, P1.inv.post, .refl _ _, tm⟩
  | .retN => fun A hA d m g env uenv S I => by
    unfold exP ex
    exact ⟨g, uenv, .non, rfl, I.post, .refl _ _, Tm2.rep .non⟩
  | .ifS c a b => fun A hA d m g env uenv S I => by
    unfold exP ex
    refine .expr (evt_ok hc c I) fun g1 env1 S1 v u P1 e => ?_
    subst e
    unfold asgS at hA
    cases v with
    | true => exact okSs2 hc a A (fun j hj => hA j (List.mem_append.mpr (.inl hj))) d m g1 env1 uenv S1 P1.inv
    | false => exact okSs2 hc b A (fun j hj => hA j (List.mem_append.mpr (.inr hj))) d m g1 env1 uenv S1 P1.inv
  | .whl c b => fun A hA d m g env uenv S I => by
    unfold exP ex
    unfold asgS at hA
    exact loopW_ok (fun g env uenv S I => evt_ok hc c I) (okSs2 hc b A hA d m) n g env uenv S I
  | .for_ t it b => fun A hA d m g env uenv S I => by
    unfold exP ex
    unfold asgS at hA
    have s := okXi hc it d m g env uenv S I
    cases hr : eviP P pcf it env S with
    | stuck => trivial
    | exc c env1 S1 => rw [hr] at s; obtain ⟨g1, e, p⟩ := s; rw [e]; exact ⟨g1, uenv, rfl, p, .refl _ _⟩
    | val q env0 S0 =>
      rw [hr] at s
      obtain ⟨g1, qs, e, I1, ri, hw, bk, _⟩ := s
      rw [e]
      simp only [RP.out, R.out]
      exact endO_ok bk (loopF_ok (okSs2 hc b A (fun j hj => hA j (List.mem_append.mpr (.inr hj))) d (m + 2)) (fun j hj => hA j (List.mem_append.mpr (.inl hj))) q.items qs.items g1 env0 uenv S0 ri I1 fun p hp => ⟨(hw p hp).1, (hw p hp).2.1⟩)
  | .brk => fun A hA d m g env uenv S I => by unfold exP ex; exact ⟨g, uenv, rfl, I.post, .refl _ _⟩
  | .cnt => fun A hA d m g env uenv S I => by unfold exP ex; exact ⟨g, uenv, rfl, I.post, .refl _ _⟩
  | .pass => fun A hA d m g env uenv S I => by unfold exP ex; exact ⟨g, uenv, rfl, I.post, .refl _ _⟩
  | .raise c es => fun A hA d m g env uenv S I => by
    unfold exP ex
    split
    · trivial
    · rename_i h
      try simp only [h]
      exact ⟨g, uenv, rfl, I.post, .refl _ _⟩
  | .tryM b hs => fun A hA d m g env uenv S I => by
    unfold exP ex
    unfold asgS at hA
    have s := okSs2 hc b A (fun j hj => hA j (List.mem_append.mpr (.inl hj))) d m g env uenv S I
    cases hr : exsP P pcf n b env S with
    | stuck => trivial
    | nx env1 S1 => rw [hr] at s; obtain ⟨g1, u1, e, p⟩ := s; rw [e]; exact ⟨g1, u1, rfl, p⟩
    | bk env1 S1 => rw [hr] at s; obtain ⟨g1, u1, e, p⟩ := s; rw [e]; exact ⟨g1, u1, rfl, p⟩
    | ct env1 S1 => rw [hr] at s; obtain ⟨g1, u1, e, p⟩ := s; rw [e]; exact ⟨g1, u1, rfl, p⟩
    | rt v env1 S1 => rw [hr] at s; obtain ⟨g1, u1, x, e, p⟩ := s; rw [e]; exact ⟨g1, u1, x, rfl, p⟩
    | exc x env1 S1 =>
      rw [hr] at s
      obtain ⟨g1, u1, e, p, sm⟩ := s
      rw [e]
      simp only
      split
      · rename_i as h
        try rw [h]
        exact .post p sm (okH2 hc hs A (fun j hj => hA j (List.mem_append.mpr (.inr hj))) as x d m g1 env1 u1 S1 p.inv)
      · trivial
  | .tryAs b c i h => fun A hA d m g env uenv S I => by unfold exP; trivial
  | .del o i => s_del hc o i
  | .stk => fun A hA d m g env uenv S I => by unfold exP; trivial
  | .kill ks => fun A hA d m g env uenv S I => by unfold exP ex; exact ⟨g, uenv, rfl, I.post_kill ks, .refl _ _⟩
theorem okSs2 (hc : CallOk P pcf ucf) : ∀ s : Sts, OkSs2 P pcf ucf n s
  | .nil => fun A hA d m g env uenv S I => by unfold exsP exs; exact ⟨g, uenv, rfl, I.post, .refl _ _⟩
  | .cons s r => fun A hA d m g env uenv S I => by
    unfold exsP exs
    unfold asgSs at hA
    have h := okS2 hc s A (fun j hj => hA j (List.mem_append.mpr (.inl hj))) d m g env uenv S I
    cases hr : exP P pcf n s env S with
    | stuck => trivial
    | nx env1 S1 =>
      rw [hr] at h
      obtain ⟨g1, u1, e, p, sm⟩ := h
      rw [e]
      exact .post p sm (okSs2 hc r A (fun j hj => hA j (List.mem_append.mpr (.inr hj))) d m g1 env1 u1 S1 p.inv)
    | bk env1 S1 => rw [hr] at h; obtain ⟨g1, u1, e, p⟩ := h; rw [e]; exact ⟨g1, u1, rfl, p⟩
    | ct env1 S1 => rw [hr] at h; obtain ⟨g1, u1, e, p⟩ := h; rw [e]; exact ⟨g1, u1, rfl, p⟩
    | rt v env1 S1 => rw [hr] at h; obtain ⟨g1, u1, x, e, p⟩ := h; rw [e]; exact ⟨g1, u1, x, rfl, p⟩
    | exc c env1 S1 => rw [hr] at h; obtain ⟨g1, u1, e, p⟩ := h; rw [e]; exact ⟨g1, u1, rfl, p⟩
theorem okH2 (hc : CallOk P pcf ucf) : ∀ (hs : Hs) (A : List Nat), (∀ j ∈ asgH hs, j ∈ A) → ∀ (as : List Nat) (x d m : Nat) (g : Gh) (env : VE) (uenv : Env) (S : OS), Inv d g env uenv S → SatO d m g env uenv S A (exhP P pcf n hs as x env S) (exh P ucf n hs as x none uenv g.S)
  | .nil => fun A hA as x d m g env uenv S I => by unfold exhP exh; exact ⟨g, uenv, rfl, I.post, .refl _ _⟩
  | .cons c h r => fun A hA as x d m g env uenv S I => by
    unfold exhP exh
    unfold asgH at hA
    by_cases hx : c ∈ as
    · rw [if_pos hx, if_pos hx]
      have s := okSs2 hc h A (fun j hj => hA j (List.mem_append.mpr (.inl hj))) d m g env uenv S I
      cases hr : exsP P pcf n h env S with
      | stuck => trivial
      | exc c env1 S1 => trivial
      | nx env1 S1 => rw [hr] at s; obtain ⟨g1, u1, e, p⟩ := s; rw [e]; exact ⟨g1, u1, rfl, p⟩
      | bk env1 S1 => rw [hr] at s; obtain ⟨g1, u1, e, p⟩ := s; rw [e]; exact ⟨g1, u1, rfl, p⟩
      | ct env1 S1 => rw [hr] at s; obtain ⟨g1, u1, e, p⟩ := s; rw [e]; exact ⟨g1, u1, rfl, p⟩
      | rt v env1 S1 => rw [hr] at s; obtain ⟨g1, u1, x, e, p⟩ := s; rw [e]; exact ⟨g1, u1, x, rfl, p⟩
    · rw [if_neg hx, if_neg hx]
      exact okH2 hc r A (fun j hj => hA j (List.mem_append.mpr (.inr hj))) as x d m g env uenv S I
end
/-! ### calls -/
theorem mdB_of {fn : Fn} (h : mdB fn = true) {j : Nat} (e : fn.md[j]? = some .mt) : j ∉ asgSs fn.body ∧ j < fn.np := by
  unfold mdB at h
  have := List.all_eq_true.mp h j (by rw [List.mem_range]; exact (List.getElem?_eq_some_iff.mp e).1)
  rw [e] at this
  simp only at this
  obtain ⟨a, b⟩ := q2 this
  exact ⟨by simpa using a, of_decide_eq_true b⟩
theorem frame_in {args : List Vl} {uargs : List U} {np nl : Nat} (I : Inv d g [] [] S) (hl : args.length = uargs.length) (h : ∀ (j : Nat) (v : Vl) (u : U), args[j]? = some v → uargs[j]? = some u → Sl g (.e d j) v u ∧ v ≠ .tkn) : Inv d g (args.map some ++ List.replicate (nl - np) none) (uargs.map some ++ List.replicate (nl - np) none) S where
  pl := fun p v e => by
    cases p with
    | var j =>
      have e : (args.map some ++ List.replicate (nl - np) none)[j]?.join = some v := e
      by_cases hj : j < args.length
      · rw [List.getElem?_append_left (by simpa using hj), List.getElem?_map, List.getElem?_eq_getElem hj] at e
        cases e
        refine ⟨uargs[j], ?_, (h j _ _ (List.getElem?_eq_getElem hj) (List.getElem?_eq_getElem (by omega))).1⟩
        show (uargs.map some ++ List.replicate (nl - np) none)[j]?.join = _
        rw [List.getElem?_append_left (by simpa using (by omega : j < uargs.length)), List.getElem?_map, List.getElem?_eq_getElem (by omega)]
        rfl
      · rw [List.getElem?_append_right (by simpa using hj), List.getElem?_replicate] at e
        split at e <;> cases e
    | fld o f => exact I.pl (.fld o f) v e
  el := by simp [hl]
  ol := I.ol
  ob := I.ob
  gar := I.gar
theorem frame_out (h : Post d m g env uenv S g' env' uenv' S') : Post d m g [] [] S g' [] [] S' := by
  refine ⟨⟨fun p v e => ?_, rfl, h.inv.ol, h.inv.ob, h.inv.gar⟩, h.ext, fun p v e k => ?_⟩
  · cases p with
    | var i => cases e
    | fld o f => exact h.inv.pl (.fld o f) v e
  · cases p with
    | var i => cases e
    | fld o f => exact h.ls (.fld o f) v e k
theorem call_ok (hm : ∀ fn ∈ P.fns, mdB fn = true) : ∀ k : Nat, CallOk P (callP P n k) (callN P n k)
  | 0 => fun d m g S f args uargs I hl h => trivial
  | k + 1 => fun d m g S f args uargs I hl h => by
    show match (match P.fns[f]? with
      | some fn => if args.length = fn.np then finP fn.np (exsP P (callP P n k) n fn.body (args.map some ++ List.replicate (fn.nl - fn.np) none) S) else .stuck
      | none => .stuck) with
      | .val r as S' => ∃ g' ur, (match P.fns[f]? with
        | some fn => if uargs.length = fn.np then fin (exs P (callN P n k) n fn.body (uargs.map some ++ List.replicate (fn.nl - fn.np) none) g.S) else .stuck
        | none => .stuck) = R.val ur g'.S ∧ Post d m g [] [] S g' [] [] S' ∧ Tm2 m g' r ur ∧ ∀ (j : Nat) (v : Vl), (mdOf P f)[j]? = some .mt → as[j]?.join = some v → ∃ u, uargs[j]? = some u ∧ Sl g' (.e d j) v u
      | .exc c as S' => ∃ g', (match P.fns[f]? with
        | some fn => if uargs.length = fn.np then fin (exs P (callN P n k) n fn.body (uargs.map some ++ List.replicate (fn.nl - fn.np) none) g.S) else .stuck
        | none => .stuck) = R.exc c none g'.S ∧ Post d m g [] [] S g' [] [] S' ∧ ∀ (j : Nat) (v : Vl), (mdOf P f)[j]? = some .mt → as[j]?.join = some v → ∃ u, uargs[j]? = some u ∧ Sl g' (.e d j) v u
      | .stuck => True
    unfold mdOf
    cases hf : P.fns[f]? with
    | none => trivial
    | some fn =>
      simp only
      by_cases hn : args.length = fn.np
      · rw [if_pos hn, if_pos (hl ▸ hn)]
        have s := okSs2 (n := n) (call_ok hm k) fn.body (asgSs fn.body) (fun _ h => h) d m g _ _ S (frame_in (np := fn.np) (nl := fn.nl) I hl h)
        have back : ∀ {g2 : Gh} {env2 : VE} {uenv2 : Env} {S2 : OS}, Post d m g (args.map some ++ List.replicate (fn.nl - fn.np) none) (uargs.map some ++ List.replicate (fn.nl - fn.np) none) S g2 env2 uenv2 S2 → Same (asgSs fn.body) (uargs.map some ++ List.replicate (fn.nl - fn.np) none) uenv2 → ∀ (j : Nat) (v : Vl), fn.md[j]? = some .mt → (env2.take fn.np)[j]?.join = some v → ∃ u, uargs[j]? = some u ∧ Sl g2 (.e d j) v u := fun {g2 env2 uenv2 S2} P2 sm j v h1 h2 => by
          obtain ⟨nj, lj⟩ := mdB_of (hm fn (List.mem_of_getElem? hf)) h1
          rw [List.getElem?_take, if_pos lj] at h2
          obtain ⟨u, hu, sl⟩ := P2.inv.pl (.var j) v h2
          refine ⟨u, ?_, sl⟩
          have hu : uenv2[j]?.join = some u := hu
          rw [sm j nj, List.getElem?_append_left (by simpa using (by omega : j < uargs.length)), List.getElem?_map] at hu
          cases hx : uargs[j]? with
          | none => rw [hx] at hu; cases hu
          | some y => rw [hx] at hu; cases hu; rfl
        cases hr : exsP P (callP P n k) n fn.body (args.map some ++ List.replicate (fn.nl - fn.np) none) S with
        | stuck => trivial
        | bk env1 S1 => trivial
        | ct env1 S1 => trivial
        | nx env1 S1 =>
          rw [hr] at s
          obtain ⟨g1, u1, e, p, sm⟩ := s
          rw [e]
          exact ⟨g1, .non, rfl, frame_out p, Tm2.rep .non, back p sm⟩
        | rt v env1 S1 =>
          rw [hr] at s
          obtain ⟨g1, u1, x, e, p, sm, t⟩ := s
          rw [e]
          exact ⟨g1, x, rfl, frame_out p, t, back p sm⟩
        | exc c env1 S1 =>
          rw [hr] at s
          obtain ⟨g1, u1, e, p, sm⟩ := s
          rw [e]
          exact ⟨g1, rfl, frame_out p, back p sm⟩
      · rw [if_neg hn]; trivial
/-- the law, asked of the pure machine -/
theorem law_pure (hm : P.fns.all mdB = true) {k f : Nat} {ns : List Int} {as : VE} {S1 : OS} (h : callP P n k f [.scr (ns.map .int)] [] = .val (.bl true) as S1) : ∃ S2, callN P n k f [.ref 0] [.fz (ns.map .int)] = .val (.bl true) S2 := by
  have hm' : ∀ fn ∈ P.fns, mdB fn = true := fun fn hf => List.all_eq_true.mp hm fn hf
  let g0 : Gh := ⟨fun l => if l = 0 then .ext else .gar, [], [.fz (ns.map .int)]⟩
  have I0 : Inv 0 g0 [] [] [] := by
    refine ⟨fun p v e => ?_, rfl, rfl, fun o c fs e => ?_, fun l hl => ?_⟩
    · cases p with
      | var i => cases e
      | fld o f => cases e
    · cases e
    · have : 1 ≤ l := hl
      exact if_neg (by omega)
  have c := call_ok (n := n) hm' k 0 0 g0 [] f [.scr (ns.map .int)] [.ref 0] I0 rfl (fun j v u h1 h2 => by
    cases j with
    | zero =>
      cases h1
      cases h2
      exact ⟨.scr rfl rfl (.ofInts ns), by intro h; cases h⟩
    | succ j => cases h1)
  rw [h] at c
  obtain ⟨g', ur, e, p, t, _⟩ := c
  refine ⟨g'.S, ?_⟩
  rw [show (callN P n k f [.ref 0] [.fz (ns.map .int)]) = R.val ur g'.S from e]
  cases t.1 with
  | rep r => cases r; rfl
end
end PyM
set_option linter.all false
set_option autoImplicit false
set_option maxRecDepth 100000
set_option maxHeartbeats 1000000
/-! Running the pure machine. -/
namespace PyM
open PyI
/-- a call's answer without its arguments -/
inductive RQ where
  | val (u : Vl) (S : OS) | exc (c : Nat) (S : OS) | stuck
def RC.q : RC → RQ
  | .val u _ S => .val u S
  | .exc c _ S => .exc c S
  | .stuck => .stuck
def RQ.up (env : VE) : RQ → RP Vl
  | .val u S => .val u env S
  | .exc c S => .exc c env S
  | .stuck => .stuck
def RP.un (p : Pl) : RP Vl → RP Vl
  | .val u env S => (unlend p env S).bind fun _ env S => .val u env S
  | .exc c env S => (unlend p env S).bind fun _ env S => .exc c env S
  | .stuck => .stuck
noncomputable def callQ (P : Pg) (n k f : Nat) (args : List Vl) (S : OS) : RQ := (callP P n k f args S).q
def finQ : OP → RQ
  | .rt u _ S => .val u S
  | .nx _ S => .val .non S
  | .exc c _ S => .exc c S
  | _ => .stuck
section
variable {P : Pg} {n : Nat} {env : VE} {S : OS} {α β γ : Type}
theorem callP_succ {k f : Nat} {fn : Fn} {us : List Vl} (h : P.fns[f]? = some fn) (hl : us.length = fn.np) : callP P n (k + 1) f us S = finP fn.np (exsP P (callP P n k) n fn.body (us.map some ++ List.replicate (fn.nl - fn.np) none) S) := by
  show (match P.fns[f]? with
    | some fn => if us.length = fn.np then finP fn.np (exsP P (callP P n k) n fn.body (us.map some ++ List.replicate (fn.nl - fn.np) none) S) else .stuck
    | none => .stuck) = _
  rw [h]
  exact if_pos hl
theorem finP_q (np : Nat) (o : OP) : (finP np o).q = finQ o := by cases o <;> rfl
theorem callQ_succ {k f : Nat} {fn : Fn} {us : List Vl} (h : P.fns[f]? = some fn) (hl : us.length = fn.np) : callQ P n (k + 1) f us S = finQ (exsP P (callP P n k) n fn.body (us.map some ++ List.replicate (fn.nl - fn.np) none) S) := by
  unfold callQ
  rw [callP_succ h hl, finP_q]
theorem callP_of {k f : Nat} {us : List Vl} {u : Vl} {S1 : OS} (h : callQ P n k f us S = .val u S1) : ∃ as, callP P n k f us S = .val u as S1 := by
  unfold callQ at h
  cases hr : callP P n k f us S with
  | val v as S2 => rw [hr] at h; cases h; exact ⟨as, rfl⟩
  | exc c as S2 => rw [hr] at h; cases h
  | stuck => rw [hr] at h; cases h
theorem at_nat {α : Type} (xs : List α) (i : Nat) : atU xs (i : Int) = xs[i]? := by
  unfold atU
  rw [if_pos (by omega)]
  split
  · simp
  · rw [List.getElem?_eq_none (by omega)]
@[simp] theorem at_zero {α : Type} (xs : List α) : atU xs 0 = xs[0]? := at_nat xs 0
@[simp] theorem at_one {α : Type} (xs : List α) : atU xs 1 = xs[1]? := at_nat xs 1
@[simp] theorem at_nn {α : Type} (xs : List α) (i : Int) (h : 0 ≤ i) : atU xs i = xs[i.toNat]? := by
  have := at_nat xs i.toNat
  rwa [Int.toNat_of_nonneg h] at this
@[simp] theorem line_eq : LINE = 16777216 := rfl
@[simp] theorem at_last {α : Type} (xs : List α) : atU xs (-1) = xs.getLast? := by
  unfold atU
  rw [if_neg (by omega), List.getLast?_eq_getElem?]
  split
  · congr 1; omega
  · rw [List.getElem?_eq_none (by omega)]
/-! ### what a call's answer is -/
@[simp] theorem dn_un (p : Pl) (r : RV) : (r.un p).dn = (r.dn).un p := by
  cases r with
  | val u args env S => show ((unlend p env S).arg _).dn = (unlend p env S).bind _; cases unlend p env S <;> rfl
  | exc c args env S =>
    show ((unlend p env S).arg _).dn = (unlend p env S).bind _
    rcases unlend_cases p env S with h | ⟨e, s, h⟩ <;> rw [h] <;> rfl
  | stuck => rfl
@[simp] theorem dn_up (k f : Nat) (args : List Vl) : ((callP P n k f args S).up env).dn = (callQ P n k f args S).up env := by
  unfold callQ
  cases callP P n k f args S <;> rfl
@[simp] theorem dn_upM (k f i : Nat) (args : List Vl) : ((lfM (callP P n k) f i args S).up env).dn = (callQ P n k f (.obj i :: args) S).up env := by
  unfold callQ lfM
  cases callP P n k f (.obj i :: args) S <;> rfl
def RQ.mk (i : Nat) : RQ → RQ
  | .val .non S => .val (.obj i) S
  | .val _ _ => .stuck
  | r => r
@[simp] theorem dn_upK (k f c : Nat) (args : List Vl) : ((lfK (callP P n k) f c args S).up env).dn = ((callQ P n k f (.obj S.length :: args) (S ++ [(c, [])])).mk S.length).up env := by
  unfold callQ lfK
  cases callP P n k f (.obj S.length :: args) (S ++ [(c, [])]) with
  | val u as S1 => cases u <;> rfl
  | exc c as S1 => rfl
  | stuck => rfl
@[simp] theorem q_up_val (u : Vl) : (RQ.val u S).up env = .val u env S := rfl
@[simp] theorem q_up_exc (c : Nat) : (RQ.exc c S).up env = .exc c env S := rfl
@[simp] theorem q_mk_val (i : Nat) : (RQ.val .non S).mk i = .val (.obj i) S := rfl
@[simp] theorem q_mk_exc (c i : Nat) : (RQ.exc c S).mk i = .exc c S := rfl
@[simp] theorem p_un_val (p : Pl) (u : Vl) : (RP.val u env S).un p = (unlend p env S).bind fun _ env S => .val u env S := rfl
@[simp] theorem p_un_exc (p : Pl) (c : Nat) : (RP.exc c env S : RP Vl).un p = (unlend p env S).bind fun _ env S => .exc c env S := rfl
@[simp] theorem lendA_some (p : Pl) (v : Vl) (k : Vl → VE → OS → RV) : lendA (.val (v, some p) env S) k = (k v env S).un p := rfl
@[simp] theorem lendA_none (v : Vl) (k : Vl → VE → OS → RV) : lendA (.val (v, none) env S) k = k v env S := rfl
@[simp] theorem takeA_some (p : Pl) (v : Vl) (j : Nat) (k : Vl → VE → OS → RV) : takeA j (.val (v, some p) env S) k = (k v env S).gv p j := rfl
@[simp] theorem takeA_none (v : Vl) (j : Nat) (k : Vl → VE → OS → RV) : takeA j (.val (v, none) env S) k = k v env S := rfl
@[simp] theorem rp_arg_val {α : Type} (a : α) (f : α → VE → OS → RV) : (RP.val a env S).arg f = f a env S := rfl
@[simp] theorem rp_arg_exc {α : Type} (c : Nat) (f : α → VE → OS → RV) : (RP.exc c env S : RP α).arg f = .exc c [] env S := rfl
@[simp] theorem rc_up_val (u : Vl) (as : VE) : (RC.val u as S).up env = .val u as env S := rfl
@[simp] theorem rc_up_exc (c : Nat) (as : VE) : (RC.exc c as S).up env = .exc c as env S := rfl
@[simp] theorem rv_dn_val (u : Vl) (as : VE) : (RV.val u as env S).dn = .val u env S := rfl
@[simp] theorem rv_dn_exc (c : Nat) (as : VE) : (RV.exc c as env S).dn = .exc c env S := rfl
@[simp] theorem rv_gv_val (u : Vl) (as : VE) (p : Pl) (j : Nat) : (RV.val u as env S).gv p j = (match as[j]?.join with
    | some v => (giveP p v env S).arg fun _ env S => .val u as env S
    | none => .stuck) := rfl
@[simp] theorem rp_bind_val (a : α) (f : α → VE → OS → RP β) : (RP.val a env S).bind f = f a env S := rfl
@[simp] theorem rp_bind_exc (c : Nat) (f : α → VE → OS → RP β) : (RP.exc c env S : RP α).bind f = .exc c env S := rfl
@[simp] theorem rp_bind_stuck (f : α → VE → OS → RP β) : (RP.stuck : RP α).bind f = .stuck := rfl
@[simp] theorem rp_out_val (a : α) (f : α → VE → OS → OP) : (RP.val a env S).out f = f a env S := rfl
@[simp] theorem rp_out_exc (c : Nat) (f : α → VE → OS → OP) : (RP.exc c env S : RP α).out f = .exc c env S := rfl
@[simp] theorem rp_out_stuck (f : α → VE → OS → OP) : (RP.stuck : RP α).out f = .stuck := rfl
@[simp] theorem ofP_some (a : α) : ofP env S (some a) = .val a env S := rfl
@[simp] theorem ofP_none : ofP env S (none : Option α) = .stuck := rfl
@[simp] theorem noXP_val (a : α) : noXP (.val a env S) = .val a env S := rfl
@[simp] theorem finQ_rt (u : Vl) : finQ (.rt u env S) = .val u S := rfl
@[simp] theorem finQ_nx : finQ (.nx env S) = .val .non S := rfl
@[simp] theorem finQ_exc (c : Nat) : finQ (.exc c env S) = .exc c S := rfl
@[simp] theorem finP_rt (np : Nat) (u : Vl) : finP np (.rt u env S) = .val u (env.take np) S := rfl
@[simp] theorem finP_nx (np : Nat) : finP np (.nx env S) = .val .non (env.take np) S := rfl
@[simp] theorem noXoP_nx : noXoP (.nx env S) = .nx env S := rfl
@[simp] theorem noXoP_rt (u : Vl) : noXoP (.rt u env S) = .rt u env S := rfl
@[simp] theorem endO_nil (o : OP) : endO [] o = o := by cases o <;> rfl
@[simp] theorem endO_one (p : Pl) : endO [p] (.nx env S) = (unlend p env S).out fun _ env S => .nx env S := by
  show ((unlend p env S).bind _).out _ = _
  rcases unlend_cases p env S with h | ⟨e, s, h⟩ <;> rw [h] <;> rfl
@[simp] theorem endO_oneR (p : Pl) (u : Vl) : endO [p] (.rt u env S) = (unlend p env S).out fun _ env S => .rt u env S := by
  show ((unlend p env S).bind _).out _ = _
  rcases unlend_cases p env S with h | ⟨e, s, h⟩ <;> rw [h] <;> rfl
@[simp] theorem unlends_nil : unlends [] env S = .val () env S := rfl
@[simp] theorem unlends_one (p : Pl) : unlends [p] env S = unlend p env S := by
  show (unlend p env S).bind _ = _
  rcases unlend_cases p env S with h | ⟨e, s, h⟩ <;> rw [h] <;> rfl
/-! ### places -/
@[simp] theorem getF_eq (o f : Nat) : getF S o f = match S[o]? with
  | some (_, fs) => fs.lookup f
  | none => none := rfl
@[simp] theorem kd_int (i : Int) : kd (.int i) = .flat := rfl
@[simp] theorem kd_bl (i : Bool) : kd (.bl i) = .flat := rfl
@[simp] theorem kd_str (i : Str) : kd (.str i) = .flat := rfl
@[simp] theorem kd_non : kd .non = .flat := rfl
@[simp] theorem kd_tup (us : List Vl) : kd (.tup us) = .flat := rfl
@[simp] theorem kd_obj (i : Nat) : kd (.obj i) = .flat := rfl
@[simp] theorem kd_fn (i : Nat) : kd (.fn i) = .flat := rfl
@[simp] theorem kd_no (us : List Vl) : kd (.lst .no us) = .flat := rfl
@[simp] theorem kd_own (us : List Vl) : kd (.lst .own us) = .own := rfl
@[simp] theorem kd_lent (us : List Vl) : kd (.lst .lent us) = .bad := rfl
@[simp] theorem kd_dno (us : List (Key × Vl)) : kd (.dct .no us) = .flat := rfl
@[simp] theorem kd_down (us : List (Key × Vl)) : kd (.dct .own us) = .own := rfl
@[simp] theorem frz_int (i : Int) : frz (.int i) = .int i := rfl
@[simp] theorem frz_bl (i : Bool) : frz (.bl i) = .bl i := rfl
@[simp] theorem frz_str (i : Str) : frz (.str i) = .str i := rfl
@[simp] theorem frz_non : frz .non = .non := rfl
@[simp] theorem frz_tup (us : List Vl) : frz (.tup us) = .tup us := rfl
@[simp] theorem frz_obj (i : Nat) : frz (.obj i) = .obj i := rfl
@[simp] theorem frz_fn (i : Nat) : frz (.fn i) = .fn i := rfl
@[simp] theorem frz_no (us : List Vl) : frz (.lst .no us) = .lst .no us := rfl
@[simp] theorem frz_own (us : List Vl) : frz (.lst .own us) = .lst .no us := rfl
@[simp] theorem frz_down (us : List (Key × Vl)) : frz (.dct .own us) = .dct .no us := rfl
/-! ### operations -/
@[simp] theorem truP_non : truP .non = some false := rfl
@[simp] theorem truP_bl (b : Bool) : truP (.bl b) = some b := rfl
@[simp] theorem truP_int (i : Int) : truP (.int i) = some (i != 0) := rfl
@[simp] theorem truP_tup (us : List Vl) : truP (.tup us) = some (!us.isEmpty) := rfl
@[simp] theorem truP_lst (o : Ow) (us : List Vl) : truP (.lst o us) = some (!us.isEmpty) := rfl
@[simp] theorem truP_dct (o : Ow) (us : List (Key × Vl)) : truP (.dct o us) = some (!us.isEmpty) := rfl
@[simp] theorem binP_addI (i j : Int) : binP .add (.int i) (.int j) = some (.int (i + j)) := rfl
@[simp] theorem binP_subI (i j : Int) : binP .sub (.int i) (.int j) = some (.int (i - j)) := rfl
@[simp] theorem binP_mulI (i j : Int) : binP .mul (.int i) (.int j) = if i.natAbs < 18446744073709551616 ∨ j.natAbs < 18446744073709551616 then some (.int (i * j)) else none := rfl
@[simp] theorem binP_fdivI (i j : Int) (h : 0 < j ∧ j < 18446744073709551616) : binP .fdiv (.int i) (.int j) = some (.int (i / j)) := if_pos h
@[simp] theorem binP_modI (i j : Int) (h : 0 < j) : binP .mod (.int i) (.int j) = some (.int (i % j)) := if_pos h
@[simp] theorem binP_addL (o o' : Ow) (us ws : List Vl) (h : us.length + ws.length ≤ 16777216) : binP .add (.lst o us) (.lst o' ws) = some (.lst .own (us ++ ws)) := by
  show newP (us ++ ws) = _
  exact if_pos (by rw [List.length_append]; exact h)
@[simp] theorem binP_addT (us ws : List Vl) (h : us.length + ws.length ≤ 16777216) : binP .add (.tup us) (.tup ws) = some (.tup (us ++ ws)) := if_pos h
theorem flat_rep {α : Type} (u : α) (k : Nat) : (List.replicate k [u]).flatten = List.replicate k u := by
  induction k with
  | zero => rfl
  | succ k ih => rw [List.replicate_succ, List.flatten_cons, ih, List.replicate_succ]; rfl
@[simp] theorem binP_mulL (o : Ow) (u : Vl) (k : Int) (h : k.natAbs < 16777216) : binP .mul (.lst o [u]) (.int k) = some (.lst .own (List.replicate k.toNat u)) := by
  show (if k.natAbs < 9223372036854775808 then newP (List.replicate k.toNat [u]).flatten else none) = _
  rw [if_pos (by omega), flat_rep]
  exact if_pos (by rw [List.length_replicate]; show _ ≤ 16777216; omega)
@[simp] theorem newP_of (us : List Vl) (h : us.length ≤ 16777216) : newP us = some (.lst .own us) := if_pos h
@[simp] theorem cmpP_ltI (i j : Int) : cmpP .lt (.int i) (.int j) = some (decide (i < j)) := rfl
@[simp] theorem cmpP_leI (i j : Int) : cmpP .le (.int i) (.int j) = some (decide (i ≤ j)) := rfl
@[simp] theorem cmpP_gtI (i j : Int) : cmpP .gt (.int i) (.int j) = some (decide (j < i)) := rfl
@[simp] theorem cmpP_geI (i j : Int) : cmpP .ge (.int i) (.int j) = some (decide (j ≤ i)) := rfl
@[simp] theorem cmpP_eq (u w : Vl) : cmpP .eq u w = eqP u w := rfl
@[simp] theorem cmpP_ne (u w : Vl) : cmpP .ne u w = (eqP u w).map (!·) := rfl
@[simp] theorem cmpP_mem (u w : Vl) : cmpP .mem u w = memP u w := rfl
@[simp] theorem cmpP_nmem (u w : Vl) : cmpP .nmem u w = (memP u w).map (!·) := rfl
@[simp] theorem cmpP_isB (a b : Bool) : cmpP .is (.bl a) (.bl b) = some (decide (a = b)) := rfl
@[simp] theorem cmpP_isnotB (a b : Bool) : cmpP .isnot (.bl a) (.bl b) = some (!decide (a = b)) := rfl
@[simp] theorem cmpP_isNn : cmpP .isN .non .non = some true := rfl
@[simp] theorem cmpP_isNi (i : Int) : cmpP .isN (.int i) .non = some false := rfl
@[simp] theorem cmpP_isNs (i : Str) : cmpP .isN (.str i) .non = some false := rfl
@[simp] theorem cmpP_isNt (i : List Vl) : cmpP .isN (.tup i) .non = some false := rfl
@[simp] theorem cmpP_isNb (i : Bool) : cmpP .isN (.bl i) .non = some false := rfl
@[simp] theorem cmpP_isNo (i : Nat) : cmpP .isN (.obj i) .non = some false := rfl
@[simp] theorem cmpP_isNl (o : Ow) (i : List Vl) : cmpP .isN (.lst o i) .non = some false := rfl
@[simp] theorem cmpP_notNn : cmpP .notN .non .non = some false := rfl
@[simp] theorem cmpP_notNi (i : Int) : cmpP .notN (.int i) .non = some true := rfl
@[simp] theorem cmpP_notNs (i : Str) : cmpP .notN (.str i) .non = some true := rfl
@[simp] theorem cmpP_notNt (i : List Vl) : cmpP .notN (.tup i) .non = some true := rfl
@[simp] theorem cmpP_notNb (i : Bool) : cmpP .notN (.bl i) .non = some true := rfl
@[simp] theorem cmpP_notNo (i : Nat) : cmpP .notN (.obj i) .non = some true := rfl
@[simp] theorem cmpP_notNl (o : Ow) (i : List Vl) : cmpP .notN (.lst o i) .non = some true := rfl
@[simp] theorem eqP_int (i j : Int) : eqP (.int i) (.int j) = some (decide (i = j)) := rfl
@[simp] theorem eqP_str (i j : Str) : eqP (.str i) (.str j) = some (decide (i = j)) := rfl
@[simp] theorem eqP_sn (i : Str) : eqP (.str i) .non = some false := rfl
@[simp] theorem eqP_ns (i : Str) : eqP .non (.str i) = some false := rfl
@[simp] theorem ixP_tup (us : List Vl) (i : Int) : ixP (.tup us) (.int i) = atU us i := rfl
@[simp] theorem ixP_lst (o : Ow) (us : List Vl) (i : Int) : ixP (.lst o us) (.int i) = atU us i := rfl
@[simp] theorem ixP_scr (us : List Vl) (i : Int) : ixP (.scr us) (.int i) = atU us i := rfl
@[simp] theorem cutP_lst (o : Ow) (us : List Vl) (lo hi : Option Int) : cutP (.lst o us) lo hi = some (.lst .own (cutU us lo hi)) := rfl
@[simp] theorem cutP_tup (us : List Vl) (lo hi : Option Int) : cutP (.tup us) lo hi = some (.tup (cutU us lo hi)) := rfl
@[simp] theorem lenP_tup (us : List Vl) : lenP (.tup us) = some us.length := rfl
@[simp] theorem lenP_lst (o : Ow) (us : List Vl) : lenP (.lst o us) = some us.length := rfl
@[simp] theorem lenP_scr (us : List Vl) : lenP (.scr us) = some us.length := rfl
@[simp] theorem lenP_dct (o : Ow) (us : List (Key × Vl)) : lenP (.dct o us) = some us.length := rfl
@[simp] theorem biP_len (x : Vl) : biP .len [x] = (lenP x).map fun (n : Nat) => .int (n : Int) := rfl
@[simp] theorem biP_int (i : Int) : biP .int [.int i] = some (.int i) := rfl
@[simp] theorem biP_intB (b : Bool) : biP .int [.bl b] = some (.int (if b then 1 else 0)) := rfl
@[simp] theorem biP_abs (i : Int) : biP .abs [.int i] = some (.int (if i < 0 then -i else i)) := rfl
@[simp] theorem biP_min (i j : Int) : biP .min [.int i, .int j] = some (.int (min i j)) := by
  show some (Vl.int (if j < i then j else i)) = _
  congr 2
  split <;> omega
@[simp] theorem biP_max (i j : Int) : biP .max [.int i, .int j] = some (.int (max i j)) := by
  show some (Vl.int (if j > i then j else i)) = _
  congr 2
  split <;> omega
theorem biP_list {x : Vl} {us : List Vl} (h : itemsP x = some us) : biP .list [x] = some (.lst .own us) := by
  show (match itemsP x with | some us => _ | none => _) = _
  rw [h]
@[simp] theorem biP_listL (o : Ow) (us : List Vl) : biP .list [.lst o us] = some (.lst .own us) := rfl
@[simp] theorem biP_listT (us : List Vl) : biP .list [.tup us] = some (.lst .own us) := rfl
@[simp] theorem biP_listS (us : List Vl) : biP .list [.scr us] = some (.lst .own us) := rfl
@[simp] theorem biP_listD (o : Ow) (kvs : List (Key × Vl)) : biP .list [.dct o kvs] = some (.lst .own (kvs.map fun p => keyV p.1)) := rfl
@[simp] theorem biP_dictOf (o : Ow) (kvs : List (Key × Vl)) : biP .dictOf [.dct o kvs] = some (.dct .own kvs) := rfl
@[simp] theorem biP_tupleL (o : Ow) (us : List Vl) : biP .tuple [.lst o us] = some (.tup us) := rfl
@[simp] theorem biP_isi (t : Ty) (x : Vl) : biP (.isi t) [x] = (isiP x t).map .bl := rfl
@[simp] theorem itemsP_lst (o : Ow) (us : List Vl) : itemsP (.lst o us) = some us := rfl
@[simp] theorem itemsP_tup (us : List Vl) : itemsP (.tup us) = some us := rfl
@[simp] theorem itemsP_scr (us : List Vl) : itemsP (.scr us) = some us := rfl
@[simp] theorem toV_int (i : Int) : toV (.int i) = some (.int i) := rfl
@[simp] theorem toV_str (i : Str) : toV (.str i) = some (.str i) := rfl
@[simp] theorem toV_tup (us : List U) : toV (.tup us) = (toV.flats us).map .tup := rfl
@[simp] theorem toV_f0 : toV.flats [] = some [] := rfl
@[simp] theorem toV_fi (i : Int) (us : List U) : toV.flats (.int i :: us) = (toV.flats us).map (.int i :: ·) := rfl
@[simp] theorem toV_fs (i : Str) (us : List U) : toV.flats (.str i :: us) = (toV.flats us).map (.str i :: ·) := rfl
@[simp] theorem bmM_append (us : List Vl) (u : Vl) (h : us.length < 16777216) : bmM .append us [u] = some (.non, us ++ [u]) := if_pos h
@[simp] theorem bmM_extend (us : List Vl) (o : Ow) (ws : List Vl) (h : us.length + ws.length ≤ 16777216) : bmM .extend us [.lst o ws] = some (.non, us ++ ws) := if_pos h
@[simp] theorem bmM_pop (us : List Vl) : bmM .pop us [] = us.getLast?.map fun u => (u, us.dropLast) := rfl
theorem asBlsP_map : ∀ bs : List Bool, asBlsP (bs.map Vl.bl) = some bs
  | [] => rfl
  | b :: bs => by simp only [List.map_cons, asBlsP, asBlsP_map bs]; rfl
theorem asStrsP_map : ∀ bs : List Str, asStrsP (bs.map Vl.str) = some bs
  | [] => rfl
  | b :: bs => by simp only [List.map_cons, asStrsP, asStrsP_map bs]; rfl
theorem asIntsP_map : ∀ bs : List Int, asIntsP (bs.map Vl.int) = some bs
  | [] => rfl
  | b :: bs => by simp only [List.map_cons, asIntsP, asIntsP_map bs]; rfl
theorem biP_all (o : Ow) (bs : List Bool) : biP .all [.lst o (bs.map .bl)] = some (.bl (bs.all id)) := by
  show (asBlsP (bs.map .bl)).map _ = _
  rw [asBlsP_map]; rfl
theorem biP_any (o : Ow) (bs : List Bool) : biP .any [.lst o (bs.map .bl)] = some (.bl (bs.any id)) := by
  show (asBlsP (bs.map .bl)).map _ = _
  rw [asBlsP_map]; rfl
theorem biP_sum (o : Ow) (bs : List Int) : biP .sum [.lst o (bs.map .int)] = some (.int bs.sum) := by
  show (asIntsP (bs.map .int)).map _ = _
  rw [asIntsP_map]; rfl
end
end PyM
set_option linter.all false
set_option autoImplicit false
set_option maxRecDepth 100000
set_option maxHeartbeats 1000000
/-! Running the pure machine: equal data, loops, comprehensions, the law's row. -/
namespace PyM
open PyI
section
variable {P : Pg} {n : Nat} {env : VE} {S : OS} {α β γ : Type}
/-! ### equal data -/
theorem eqvAll_self : ∀ ds : List PySem.PyData, (∀ d ∈ ds, PySem.PyData.eqv d d = true) → PySem.PyData.eqvAll ds ds = true
  | [], _ => by simp [PySem.PyData.eqvAll]
  | d :: ds, h => by
    rw [PySem.PyData.eqvAll, h d List.mem_cons_self, eqvAll_self ds fun x hx => h x (List.mem_cons_of_mem _ hx)]; rfl
theorem seqO_mem {α β : Type} {f : α → Option β} : ∀ {l : List α} {r : List β}, seqO (l.map f) = some r → ∀ b ∈ r, ∃ a ∈ l, f a = some b
  | [], r, h, b, hb => by cases h; cases hb
  | a :: l, r, h, b, hb => by
    rw [List.map_cons] at h
    cases ha : f a with
    | none => rw [ha] at h; cases h
    | some x =>
      rw [ha] at h
      simp only [seqO] at h
      cases hs : seqO (l.map f) with
      | none => rw [hs] at h; cases h
      | some xs =>
        rw [hs] at h
        cases h
        rcases List.mem_cons.mp hb with rfl | hb
        · exact ⟨a, List.mem_cons_self, ha⟩
        · obtain ⟨y, hy, e⟩ := seqO_mem hs b hb
          exact ⟨y, List.mem_cons_of_mem _ hy, e⟩
theorem dat_refl : ∀ (k : Nat) (v : Vl) (d : PySem.PyData), datP k v = some d → PySem.PyData.eqv d d = true := by
  intro k
  induction k with
  | zero =>
    intro v d h
    cases v <;> simp only [datP] at h <;> first | (cases h; done) | (cases h; simp [PySem.PyData.eqv]; done) | skip
    split at h <;> first | (cases h; done) | (cases h; simp [PySem.PyData.eqv]; done)
  | succ k ih =>
    intro v d h
    have sub : ∀ (us : List Vl) (ds : List PySem.PyData), seqO (us.map (datP k)) = some ds → PySem.PyData.eqvAll ds ds = true := fun us ds hs => eqvAll_self ds fun x hx => by
      obtain ⟨a, _, e⟩ := seqO_mem hs x hx
      exact ih a x e
    cases v <;> simp only [datP] at h <;> first | (cases h; done) | (cases h; simp [PySem.PyData.eqv]; done) | skip
    · split at h <;> first | (cases h; done) | (cases h; simp [PySem.PyData.eqv]; done)
    · rename_i us
      cases hs : seqO (us.map (datP k)) with
      | none => rw [hs] at h; cases h
      | some ds => rw [hs] at h; cases h; rw [PySem.PyData.eqv]; exact sub us ds hs
    · rename_i o us
      cases hs : seqO (us.map (datP k)) with
      | none => rw [hs] at h; cases h
      | some ds => rw [hs] at h; cases h; rw [PySem.PyData.eqv]; exact sub us ds hs
theorem eqDP_of {v w : Vl} {d e : PySem.PyData} (h : datP DEPTH v = some d) (h2 : datP DEPTH w = some e) : eqDP v w = some (PySem.PyData.eqv d e) := by
  unfold eqDP; rw [h, h2]
theorem eqP_D (v w : Vl) (h : ∀ i, v ≠ .int i) (h2 : ∀ i, v ≠ .str i) (h3 : v ≠ .non) : eqP v w = eqDP v w := by
  unfold eqP
  split <;> first | rfl | (exact absurd rfl (h _)) | (exact absurd rfl (h2 _)) | (exact absurd rfl h3)
theorem eqDP_refl {v : Vl} {d : PySem.PyData} (h : datP DEPTH v = some d) : eqDP v v = some true := by
  rw [eqDP_of h h, dat_refl _ _ _ h]
/-- data of a list -/
theorem seqO_maps {f : Vl → Option PySem.PyData} {ι : α → Vl} {δ : α → PySem.PyData} : ∀ xs : List α, (∀ a ∈ xs, f (ι a) = some (δ a)) → seqO ((xs.map ι).map f) = some (xs.map δ)
  | [], _ => rfl
  | a :: xs, h => by
    rw [List.map_cons, List.map_cons, h a List.mem_cons_self]
    show (seqO ((xs.map ι).map f)).map _ = _
    rw [seqO_maps xs fun x hx => h x (List.mem_cons_of_mem _ hx)]
    rfl
theorem datP_lst {k : Nat} {o : Ow} {ι : α → Vl} {δ : α → PySem.PyData} {xs : List α} (h : ∀ a ∈ xs, datP k (ι a) = some (δ a)) : datP (k + 1) (.lst o (xs.map ι)) = some (.list (xs.map δ)) := by
  simp only [datP, seqO_maps xs h, Option.map_some]
theorem datP_int (k : Nat) (i : Int) : datP k (.int i) = some (.int i) := by cases k <;> rfl
theorem datP_ints {k : Nat} {o : Ow} (ns : List Int) : datP (k + 1) (.lst o (ns.map .int)) = some (.list (ns.map .int)) := datP_lst fun a _ => datP_int k a
theorem eqv_intsP : ∀ ns ms : List Int, PySem.PyData.eqvAll (ns.map .int) (ms.map .int) = decide (ns = ms)
  | [], [] => by simp [PySem.PyData.eqvAll]
  | [], m :: ms => by simp [PySem.PyData.eqvAll]
  | n :: ns, [] => by simp [PySem.PyData.eqvAll]
  | n :: ns, m :: ms => by
    simp only [List.map_cons, PySem.PyData.eqvAll, PySem.PyData.eqv, eqv_intsP ns ms]
    by_cases h : n = m <;> by_cases h2 : ns = ms <;> simp [h, h2]
theorem eqP_ints (o o' : Ow) (ns ms : List Int) : eqP (.lst o (ns.map .int)) (.lst o' (ms.map .int)) = some (decide (ns = ms)) := by
  show eqDP _ _ = _
  rw [eqDP_of (datP_ints ns) (datP_ints ms), PySem.PyData.eqv, eqv_intsP]
@[simp] theorem eqP_bl (a b : Bool) : eqP (.bl a) (.bl b) = some (decide (a = b)) := by cases a <;> cases b <;> rfl
@[simp] theorem eqP_nn : eqP .non .non = some true := rfl
@[simp] theorem eqP_in (a : Int) : eqP (.int a) .non = some false := rfl
@[simp] theorem eqP_ni (a : Int) : eqP .non (.int a) = some false := rfl
theorem datP_tupI {k : Nat} (ns : List Int) : datP (k + 1) (.tup (ns.map .int)) = some (.tuple (ns.map .int)) := by
  simp only [datP, seqO_maps (ι := Vl.int) (δ := PySem.PyData.int) ns (fun a _ => datP_int k a), Option.map_some]
theorem eqP_tupI (ns ms : List Int) : eqP (.tup (ns.map .int)) (.tup (ms.map .int)) = some (decide (ns = ms)) := by
  show eqDP _ _ = _
  rw [eqDP_of (datP_tupI ns) (datP_tupI ms), PySem.PyData.eqv, eqv_intsP]
@[simp] theorem eqP_tup2 (a b c d : Int) : eqP (.tup [.int a, .int b]) (.tup [.int c, .int d]) = some (decide (a = c ∧ b = d)) := by
  rw [show eqP (.tup [.int a, .int b]) (.tup [.int c, .int d]) = _ from eqP_tupI [a, b] [c, d]]; simp
@[simp] theorem eqP_tup3 (a b x c d y : Int) : eqP (.tup [.int a, .int b, .int x]) (.tup [.int c, .int d, .int y]) = some (decide (a = c ∧ b = d ∧ x = y)) := by
  rw [show eqP (.tup [.int a, .int b, .int x]) (.tup [.int c, .int d, .int y]) = _ from eqP_tupI [a, b, x] [c, d, y]]; simp
@[simp] theorem eqP_tup4 (a b x z c d y w : Int) : eqP (.tup [.int a, .int b, .int x, .int z]) (.tup [.int c, .int d, .int y, .int w]) = some (decide (a = c ∧ b = d ∧ x = y ∧ z = w)) := by
  rw [show eqP (.tup [.int a, .int b, .int x, .int z]) (.tup [.int c, .int d, .int y, .int w]) = _ from eqP_tupI [a, b, x, z] [c, d, y, w]]; simp

/-! ### data to a depth -/
def Dat (k : Nat) (v : Vl) : Prop := ∃ d, datP k v = some d
theorem seqO_all {f : Vl → Option PySem.PyData} : ∀ us : List Vl, (∀ v ∈ us, ∃ d, f v = some d) → ∃ ds, seqO (us.map f) = some ds
  | [], _ => ⟨[], rfl⟩
  | v :: us, h => by
    obtain ⟨d, e⟩ := h v List.mem_cons_self
    obtain ⟨ds, e2⟩ := seqO_all us fun x hx => h x (List.mem_cons_of_mem _ hx)
    exact ⟨d :: ds, by rw [List.map_cons, e]; show (seqO (us.map f)).map _ = _; rw [e2]; rfl⟩
theorem Dat.lst {k : Nat} {o : Ow} {us : List Vl} (h : ∀ v ∈ us, Dat k v) : Dat (k + 1) (.lst o us) := by
  obtain ⟨ds, e⟩ := seqO_all us h
  exact ⟨.list ds, by simp only [datP, e, Option.map_some]⟩
theorem Dat.tup {k : Nat} {us : List Vl} (h : ∀ v ∈ us, Dat k v) : Dat (k + 1) (.tup us) := by
  obtain ⟨ds, e⟩ := seqO_all us h
  exact ⟨.tuple ds, by simp only [datP, e, Option.map_some]⟩
@[simp] theorem Dat.int (k : Nat) (i : Int) : Dat k (.int i) := ⟨_, datP_int k i⟩
@[simp] theorem Dat.bl (k : Nat) (b : Bool) : Dat k (.bl b) := ⟨.bool b, by cases k <;> rfl⟩
@[simp] theorem Dat.non (k : Nat) : Dat k .non := ⟨.none, by cases k <;> rfl⟩
theorem Dat.ints {k : Nat} {o : Ow} (ns : List Int) : Dat (k + 1) (.lst o (ns.map .int)) := Dat.lst fun v hv => by
  obtain ⟨i, _, rfl⟩ := List.mem_map.mp hv
  exact Dat.int k i
theorem eqP_reflT {us : List Vl} (h : Dat DEPTH (.tup us)) : eqP (.tup us) (.tup us) = some true := by
  obtain ⟨d, e⟩ := h
  exact eqDP_refl e
theorem eqP_reflL {o o' : Ow} {us : List Vl} (h : Dat DEPTH (.lst o us)) : eqP (.lst o us) (.lst o' us) = some true := by
  obtain ⟨d, e⟩ := h
  have e2 : datP DEPTH (.lst o' us) = some d := e
  show eqDP _ _ = _
  rw [eqDP_of e e2, dat_refl _ _ _ e]
/-! ### lists of numbers -/
def IsInts (us : List Vl) : Prop := ∃ os : List Int, us = os.map .int
@[simp] theorem isInts_nil : IsInts [] := ⟨[], rfl⟩
@[simp] theorem isInts_map (os : List Int) : IsInts (os.map .int) := ⟨os, rfl⟩
@[simp] theorem isInts_cons (i : Int) (us : List Vl) : IsInts (.int i :: us) ↔ IsInts us := ⟨fun ⟨os, h⟩ => by
  cases os with
  | nil => cases h
  | cons a os => simp only [List.map_cons, List.cons.injEq] at h; exact ⟨os, h.2⟩, fun ⟨os, h⟩ => ⟨i :: os, by rw [h]; rfl⟩⟩
theorem isInts_app {us ws : List Vl} (h : IsInts us) (h2 : IsInts ws) : IsInts (us ++ ws) := by
  obtain ⟨a, rfl⟩ := h
  obtain ⟨b, rfl⟩ := h2
  exact ⟨a ++ b, by rw [List.map_append]⟩
theorem isInts_take {us : List Vl} (h : IsInts us) (k : Nat) : IsInts (us.take k) := by
  obtain ⟨a, rfl⟩ := h
  exact ⟨a.take k, by rw [List.map_take]⟩
@[simp] theorem isInts_rep (k : Nat) (i : Int) : IsInts (List.replicate k (.int i)) := ⟨List.replicate k i, by simp⟩
/-! ### slices -/
theorem cut_int {α : Type} (xs : List α) (a b : Int) (ha : 0 ≤ a) (hb : 0 ≤ b) : cutU xs (some a) (some b) = (xs.drop a.toNat).take (b.toNat - a.toNat) := by
  unfold cutU sIxU
  simp only
  rw [if_neg (by omega), if_neg (by omega)]
  by_cases h : a.toNat ≤ xs.length
  · rw [Nat.min_eq_left h]
    by_cases h2 : b.toNat ≤ xs.length
    · rw [Nat.min_eq_left h2]
    · rw [Nat.min_eq_right (by omega), List.take_of_length_le (by rw [List.length_drop]; omega), List.take_of_length_le (by rw [List.length_drop]; omega)]
  · rw [Nat.min_eq_right (by omega : xs.length ≤ a.toNat), List.drop_length, List.drop_eq_nil_of_le (by omega : xs.length ≤ a.toNat), List.take_nil, List.take_nil]
theorem cut_from {α : Type} (xs : List α) (a : Int) (ha : 0 ≤ a) : cutU xs (some a) none = xs.drop a.toNat := by
  unfold cutU sIxU
  simp only
  rw [if_neg (by omega)]
  by_cases h : a.toNat ≤ xs.length
  · rw [Nat.min_eq_left h, List.take_of_length_le (by rw [List.length_drop]; omega)]
  · rw [Nat.min_eq_right (by omega : xs.length ≤ a.toNat), List.drop_length, List.drop_eq_nil_of_le (by omega : xs.length ≤ a.toNat), List.take_nil]
theorem cut_to {α : Type} (xs : List α) (b : Int) (hb : 0 ≤ b) : cutU xs none (some b) = xs.take b.toNat := by
  unfold cutU sIxU
  simp only
  rw [if_neg (by omega), List.drop_zero, Nat.sub_zero]
  by_cases h : b.toNat ≤ xs.length
  · rw [Nat.min_eq_left h]
  · rw [Nat.min_eq_right (by omega), List.take_of_length_le (Nat.le_refl _), List.take_of_length_le (by omega)]
/-! ### loops -/
def OP.go (o : OP) (f : VE → OS → OP) : OP := match o with
  | .nx e S => f e S
  | .ct e S => f e S
  | .bk e S => .nx e S
  | .rt u e S => .rt u e S
  | .exc c e S => .exc c e S
  | .stuck => .stuck
@[simp] theorem op_go_nx (f : VE → OS → OP) : (OP.nx env S).go f = f env S := rfl
@[simp] theorem op_go_ct (f : VE → OS → OP) : (OP.ct env S).go f = f env S := rfl
@[simp] theorem op_go_bk (f : VE → OS → OP) : (OP.bk env S).go f = .nx env S := rfl
@[simp] theorem op_go_rt (u : Vl) (f : VE → OS → OP) : (OP.rt u env S).go f = .rt u env S := rfl
@[simp] theorem op_go_exc (c : Nat) (f : VE → OS → OP) : (OP.exc c env S).go f = .exc c env S := rfl
@[simp] theorem loopFP_cons {t : Tg} {b : VE → OS → OP} {u : Vl} {us : List Vl} : loopFP t b (u :: us) env S = (bindP t u env).elim .stuck fun env1 => (b env1 S).go (loopFP t b us) := by
  rw [loopFP]
  cases bindP t u env with
  | none => rfl
  | some e =>
    simp only [Option.elim]
    cases b e S <;> rfl
@[simp] theorem loopFP_nil {t : Tg} {b : VE → OS → OP} : loopFP t b [] env S = .nx env S := rfl
/-- a for whose state goes on as told -/
theorem loopFP_st (ι : α → Vl) {t : Tg} {b : VE → OS → OP} (f : Nat → VE) (s : Nat → OS) : ∀ (items : List α) (i : Nat), (∀ (j : Nat) (a : α), items[j]? = some a → ∃ env1, bindP t (ι a) (f (i + j)) = some env1 ∧ (b env1 (s (i + j)) = .nx (f (i + j + 1)) (s (i + j + 1)) ∨ b env1 (s (i + j)) = .ct (f (i + j + 1)) (s (i + j + 1)))) →
    loopFP t b (items.map ι) (f i) (s i) = .nx (f (i + items.length)) (s (i + items.length))
  | [], i, _ => rfl
  | a :: as, i, h => by
    obtain ⟨env1, h1, h2⟩ := h 0 a rfl
    rw [Nat.add_zero] at h1 h2
    rw [List.map_cons, loopFP_cons, h1]
    show (b env1 (s i)).go _ = _
    have ih := loopFP_st ι f s as (i + 1) (fun j a hj => by
      have := h (j + 1) a (by simpa using hj)
      rw [show i + 1 + j = i + (j + 1) by omega]
      exact this)
    rw [show i + (a :: as).length = i + 1 + as.length by simp; omega]
    rcases h2 with h2 | h2 <;> rw [h2] <;> exact ih
/-- a for with an invariant -/
theorem loopFP_inv (ι : α → Vl) {t : Tg} {b : VE → OS → OP} (Inv : Nat → VE → OS → Prop) : ∀ (items : List α) (i : Nat) (env : VE) (S : OS), (∀ (j : Nat) (a : α) (env : VE) (S : OS), items[j]? = some a → Inv (i + j) env S → ∃ env1, bindP t (ι a) env = some env1 ∧ ∃ e S1, (b env1 S = .nx e S1 ∨ b env1 S = .ct e S1) ∧ Inv (i + j + 1) e S1) →
    Inv i env S → ∃ e S1, loopFP t b (items.map ι) env S = .nx e S1 ∧ Inv (i + items.length) e S1
  | [], i, env, S, _, h0 => ⟨env, S, rfl, h0⟩
  | u :: us, i, env, S, st, h0 => by
    obtain ⟨env1, h1, e, S1, h2, h3⟩ := st 0 u env S rfl h0
    have ih := loopFP_inv ι Inv us (i + 1) e S1 (fun j u env S hj hI => by
      have := st (j + 1) u env S (by simpa using hj) (by rw [show i + (j + 1) = i + 1 + j by omega]; exact hI)
      rw [show i + (j + 1) + 1 = i + 1 + j + 1 by omega] at this
      exact this) h3
    obtain ⟨e', S', h4, h5⟩ := ih
    refine ⟨e', S', ?_, by rw [show i + (u :: us).length = i + 1 + us.length by simp; omega]; exact h5⟩
    rw [List.map_cons, loopFP_cons, h1]
    show (b env1 S).go _ = _
    rcases h2 with h2 | h2 <;> rw [h2] <;> exact h4
/-- a for that folds -/
theorem loopFP_fold {σ : Type} (ι : α → Vl) {t : Tg} {b : VE → OS → OP} (R : σ → VE → OS → Prop) (step : σ → α → σ) : ∀ (items : List α) (s : σ) (env : VE) (S : OS), (∀ a ∈ items, ∀ s env S, R s env S → ∃ env1, bindP t (ι a) env = some env1 ∧ ∃ e S1, (b env1 S = .nx e S1 ∨ b env1 S = .ct e S1) ∧ R (step s a) e S1) →
    R s env S → ∃ e S1, loopFP t b (items.map ι) env S = .nx e S1 ∧ R (items.foldl step s) e S1
  | [], s, env, S, _, h0 => ⟨env, S, rfl, h0⟩
  | a :: as, s, env, S, h, h0 => by
    obtain ⟨env1, h1, e, S1, h2, h3⟩ := h a List.mem_cons_self s env S h0
    obtain ⟨e', S', h4, h5⟩ := loopFP_fold ι R step as (step s a) e S1 (fun x hx => h x (List.mem_cons_of_mem _ hx)) h3
    refine ⟨e', S', ?_, h5⟩
    rw [List.map_cons, loopFP_cons, h1]
    show (b env1 S).go _ = _
    rcases h2 with h2 | h2 <;> rw [h2] <;> exact h4
/-- over a range -/
theorem loopFP_range {t : Tg} {b : VE → OS → OP} {m : Nat} {env : VE} {S : OS} (Inv : Nat → VE → OS → Prop) (h0 : Inv 0 env S)
    (st : ∀ (j : Nat) (env : VE) (S : OS), j < m → Inv j env S → ∃ env1, bindP t (.int j) env = some env1 ∧ ∃ e S1, (b env1 S = .nx e S1 ∨ b env1 S = .ct e S1) ∧ Inv (j + 1) e S1) :
    ∃ e S1, loopFP t b ((List.range m).map fun (k : Nat) => Vl.int k) env S = .nx e S1 ∧ Inv m e S1 := by
  have := loopFP_inv (fun (k : Nat) => Vl.int k) (t := t) (b := b) Inv (List.range m) 0 env S (fun j u env S hj hI => by
    have h1 := (List.getElem?_eq_some_iff.mp hj).1
    rw [List.getElem?_range (by simpa using h1)] at hj
    cases hj
    rw [Nat.zero_add] at hI ⊢
    exact st _ env S (by simpa using h1) hI) h0
  simpa using this
/-- a for that hands back at the first item of a kind -/
theorem loopFP_find (ι : α → Vl) {t : Tg} {b : VE → OS → OP} (Inv : VE → Prop) (p : α → Bool) (r : α → Vl) :
    ∀ (items : List α) (env : VE), (∀ a ∈ items, ∀ env, Inv env → ∃ env1, bindP t (ι a) env = some env1 ∧ (p a = true → ∃ e, b env1 S = .rt (r a) e S ∧ Inv e) ∧ (p a = false → ∃ e, (b env1 S = .nx e S ∨ b env1 S = .ct e S) ∧ Inv e)) → Inv env →
    (∀ a, items.find? p = some a → ∃ e, loopFP t b (items.map ι) env S = .rt (r a) e S ∧ Inv e) ∧ (items.find? p = none → ∃ e, loopFP t b (items.map ι) env S = .nx e S ∧ Inv e)
  | [], env, _, h0 => ⟨fun a h => (by cases h), fun _ => ⟨env, rfl, h0⟩⟩
  | a :: as, env, h, h0 => by
    obtain ⟨env1, h1, h2, h3⟩ := h a List.mem_cons_self env h0
    rw [List.map_cons, loopFP_cons, h1]
    cases hp : p a with
    | true =>
      rw [List.find?_cons_of_pos hp]
      obtain ⟨e, h4, h5⟩ := h2 hp
      refine ⟨fun x hx => ?_, fun hx => by cases hx⟩
      cases hx
      exact ⟨e, by show (b env1 S).go _ = _; rw [h4]; rfl, h5⟩
    | false =>
      obtain ⟨e, h4, h5⟩ := h3 hp
      have ih := loopFP_find ι Inv p r as e (fun x hx => h x (List.mem_cons_of_mem _ hx)) h5
      rw [List.find?_cons_of_neg (by simp [hp])]
      show (∀ x, _ → ∃ e, (b env1 S).go _ = _ ∧ _) ∧ (_ → ∃ e, (b env1 S).go _ = _ ∧ _)
      rcases h4 with h4 | h4 <;> rw [h4] <;> exact ih

/-! ### comprehensions -/
@[simp] theorem wipeP_nil : wipeP env [] = env := rfl
@[simp] theorem wipeP_cons (v : Nat) (vs : List Nat) : wipeP env (v :: vs) = (wipeP env vs).set v none := rfl
theorem backP_self {old : VE} {own : List Nat} (h : wipeP env own = wipeP old own) (hl : ∀ i ∈ own, i < old.length) : backP old env own = old := by
  have len : env.length = old.length := by
    have := congrArg List.length h
    rwa [wipeP_len, wipeP_len] at this
  apply List.ext_getElem?
  intro i
  have key : ∀ (own : List Nat), (∀ i ∈ own, i < old.length) → (backP old env own)[i]? = if i ∈ own then old[i]? else env[i]? := by
    intro own
    induction own with
    | nil => intro _; simp [backP]
    | cons v vs ih =>
      intro hl
      have hv := hl v List.mem_cons_self
      have ih := ih fun i hi => hl i (List.mem_cons_of_mem _ hi)
      unfold backP
      rw [List.getElem?_eq_getElem hv]
      simp only
      rw [List.getElem?_set]
      by_cases e : v = i
      · subst e
        rw [if_pos rfl, if_pos List.mem_cons_self, if_pos (by rw [backP_len, len]; exact hv), List.getElem?_eq_getElem hv]
      · rw [if_neg e, ih]
        have : i ∈ v :: vs ↔ i ∈ vs := by
          rw [List.mem_cons]
          exact ⟨fun h => h.resolve_left fun h => e h.symm, .inr⟩
        simp only [this]
  rw [key own hl]
  by_cases hi : i ∈ own
  · rw [if_pos hi]
  · rw [if_neg hi]
    have e1 : ∀ (e : VE), (wipeP e own)[i]? = e[i]? := fun e => by
      clear h hl key len
      induction own with
      | nil => rfl
      | cons v vs ih =>
        rw [List.mem_cons, not_or] at hi
        rw [wipeP_cons, List.getElem?_set, if_neg (fun e => hi.1 e.symm), ih hi.2]
    rw [← e1 env, h, e1 old]
theorem loopCP_pure (ι : α → Vl) {t : Tg} {own : List Nat} {c : VE → OS → RP Bool} {e : VE → OS → RP Vl} (W : VE) (f : α → Bool) (g : α → Vl) :
    ∀ (items : List α) (acc : List Vl) (env : VE), acc.length + items.length ≤ 16777216 → wipeP env own = W →
    (∀ a ∈ items, ∃ env1, bindP t (ι a) W = some env1 ∧ ∃ env2, c env1 S = .val (f a) env2 S ∧ (f a = false → wipeP env2 own = W) ∧ (f a = true → ∃ env3, e env2 S = .val (g a) env3 S ∧ wipeP env3 own = W)) →
    ∃ env', loopCP t own c e (items.map ι) acc env S = .val (acc ++ ((items.filter f).map fun a => frz (g a))) env' S ∧ wipeP env' own = W
  | [], acc, env, _, hW, _ => ⟨env, by simp [loopCP], hW⟩
  | u :: us, acc, env, hz, hW, h => by
    obtain ⟨env1, h1, env2, h2, h3, h4⟩ := h u List.mem_cons_self
    rw [List.length_cons] at hz
    rw [List.map_cons]
    unfold loopCP
    rw [hW, h1]
    simp only [h2, rp_bind_val]
    cases hf : f u with
    | false =>
      obtain ⟨env', e1, e2⟩ := loopCP_pure ι W f g us acc env2 (by omega) (h3 hf) fun a ha => h a (List.mem_cons_of_mem _ ha)
      refine ⟨env', ?_, e2⟩
      simp only [Bool.false_eq_true, if_false]
      rw [e1, List.filter_cons_of_neg (by simp [hf])]
    | true =>
      obtain ⟨env3, h5, h6⟩ := h4 hf
      obtain ⟨env', e1, e2⟩ := loopCP_pure ι W f g us (acc ++ [frz (g u)]) env3 (by rw [List.length_append]; simp only [List.length_cons, List.length_nil]; omega) h6 fun a ha => h a (List.mem_cons_of_mem _ ha)
      refine ⟨env', ?_, e2⟩
      simp only [if_true, h5, rp_bind_val]
      rw [if_pos (by show acc.length < 16777216; omega), e1, List.filter_cons_of_pos hf, List.map_cons, List.append_assoc]
      rfl
theorem evP_compF (ι : α → Vl) {cf : Nat → List Vl → OS → RC} {k : Bool} {own : List Nat} {t : Tg} {it : It} {c : Eo} {e : E} {env0 : VE} {items : List α} {bk : List Pl} (hq : eviP P cf it env S = .val ⟨items.map ι, bk⟩ env0 S) (hf : freeOf env0 t own = true) (hi : ∀ i ∈ own, i < env0.length) (f : α → Bool) (g : α → Vl) (hl : items.length ≤ 16777216)
    (h : ∀ a ∈ items, ∃ env1, bindP t (ι a) (wipeP env0 own) = some env1 ∧ ∃ env2, evcP' P cf c env1 S = .val (f a) env2 S ∧ (f a = false → wipeP env2 own = wipeP env0 own) ∧ (f a = true → ∃ env3, evP P cf true e env2 S = .val (g a) env3 S ∧ wipeP env3 own = wipeP env0 own)) :
    evP P cf k (.comp own t it c e) env S = (unlends bk env0 S).bind fun _ env S => .val (.lst .own ((items.filter f).map fun a => frz (g a))) env S := by
  obtain ⟨env', e1, e2⟩ := loopCP_pure ι (wipeP env0 own) f g items [] env0 (by simpa using hl) rfl h
  rw [evP, hq, rp_bind_val]
  simp only [hf, if_true, e1, noXP_val, rp_bind_val, backP_self e2 hi, List.nil_append]
theorem evP_compM (ι : α → Vl) {cf : Nat → List Vl → OS → RC} {k : Bool} {own : List Nat} {t : Tg} {it : It} {e : E} {env0 : VE} {items : List α} {bk : List Pl} (hq : eviP P cf it env S = .val ⟨items.map ι, bk⟩ env0 S) (hf : freeOf env0 t own = true) (hi : ∀ i ∈ own, i < env0.length) (g : α → Vl) (hl : items.length ≤ 16777216)
    (h : ∀ a ∈ items, ∃ env1, bindP t (ι a) (wipeP env0 own) = some env1 ∧ ∃ env3, evP P cf true e env1 S = .val (g a) env3 S ∧ wipeP env3 own = wipeP env0 own) :
    evP P cf k (.comp own t it .none e) env S = (unlends bk env0 S).bind fun _ env S => .val (.lst .own (items.map fun a => frz (g a))) env S := by
  rw [evP_compF ι hq hf hi (fun _ => true) g hl (fun a ha => by
    obtain ⟨env1, h1, env3, h2, h3⟩ := h a ha
    exact ⟨env1, h1, env1, by rw [evcP'], (fun h => by cases h), fun _ => ⟨env3, h2, h3⟩⟩), List.filter_eq_self.mpr (fun _ _ => rfl)]
end
def lawCell : Sts := (.cons (.asg (.nm 2) (.int 0)) (.cons (.ifS (.cmp .gt (.bi .len (.cons (.var 0) .nil)) (.int 0)) (.cons (.asg (.nm 2) (.ix (.var 0) (.bin .mod (.bi .int (.cons (.var 1) .nil)) (.bi .len (.cons (.var 0) .nil))))) .nil) .nil) (.cons (.ifS (.cmp .lt (.var 2) (.int 0)) (.cons (.asg (.nm 2) (.bin .sub (.int 1) (.bin .mul (.int 2) (.var 2)))) .nil) .nil) (.cons (.ret (.mov 2)) .nil))))
def lawRow (c : Nat) : Sts := (.cons (.asg (.nm 2) (.call c (.cons (.var 0) (.cons (.var 1) .nil)))) (.cons (.ifS (.and (.cmp .lt (.var 1) (.bi .len (.cons (.var 0) .nil))) (.cmp .ge (.var 2) (.int 1000000000))) (.cons (.ret (.mov 2)) .nil) .nil) (.cons (.asg (.nm 3) (.bin .mod (.bi .int (.cons (.bin .add (.bin .add (.bin .mul (.var 2) (.int 48271)) (.bin .mul (.var 1) (.int 69621))) (.int 12345)) .nil)) (.int 2147483647))) (.cons (.asg (.nm 4) (.bin .mod (.bi .int (.cons (.bin .add (.bin .add (.bin .mul (.var 3) (.var 3)) (.bin .mul (.int 16807) (.var 1))) (.int 7)) .nil)) (.int 2147483629))) (.cons (.ret (.bin .add (.bin .mod (.bi .int (.cons (.bin .add (.bin .mul (.var 4) (.var 4)) (.var 3)) .nil)) (.int 4294967291)) (.bin .mul (.int 4294967296) (.bin .add (.var 3) (.int 1))))) .nil)))))
/-- the cell that a place has -/
def cellV (ns : List Int) (k : Int) : Int :=
  let c := if 0 < (ns.length : Int) then ns.getD (k % (ns.length : Int)).toNat 0 else 0
  if c < 0 then 1 - 2 * c else c
def rowV (ns : List Int) (k : Int) : Int :=
  if k < ns.length ∧ 1000000000 ≤ cellV ns k then cellV ns k else
  let one := (cellV ns k * 48271 + k * 69621 + 12345) % 2147483647
  let two := (one * one + 16807 * k + 7) % 2147483629
  (two * two + one) % 4294967291 + 4294967296 * (one + 1)
theorem cellV_nn (ns : List Int) (k : Int) : 0 ≤ cellV ns k := by
  unfold cellV
  dsimp only
  split <;> split <;> omega
theorem rowV_nn (ns : List Int) (k : Int) : 0 ≤ rowV ns k := by
  have := cellV_nn ns k
  unfold rowV
  dsimp only
  split <;> omega
section
variable {P : Pg} {n : Nat} {S : OS}
theorem at_ints {ns : List Int} {i : Nat} (h : i < ns.length) : atU (ns.map Vl.int) (i : Int) = some (.int (ns.getD i 0)) := by
  unfold atU
  rw [if_pos (by omega), if_pos (by simpa using h)]
  simp [h]
theorem cell_runP {k c : Nat} {md : List Md} (hm : md = [.ln, .ln]) (hf : P.fns[c]? = some ⟨2, 3, lawCell, md⟩) (ns : List Int) (i : Int) : callQ P n (k + 1) c [.scr (ns.map .int), .int i] S = .val (.int (cellV ns i)) S := by
  rw [callQ_succ hf rfl]
  by_cases hn : 0 < (ns.length : Int)
  · have hn2 : 0 < ns.length := by omega
    have h2 : atU (ns.map Vl.int) (i % (ns.length : Int)) = some (.int (ns.getD (i % (ns.length : Int)).toNat 0)) := by
      have hlt : (i % (ns.length : Int)).toNat < ns.length := by
        have := Int.emod_nonneg i (show (ns.length : Int) ≠ 0 by omega)
        have := Int.emod_lt_of_pos i hn
        omega
      have := at_ints hlt
      rw [Int.toNat_of_nonneg (Int.emod_nonneg i (by omega))] at this
      exact this
    unfold cellV
    simp only [hn, if_true]
    generalize ns.getD (i % (ns.length : Int)).toNat 0 = z at h2
    by_cases hz : z < 0
    · simp [lawCell, h2, hn2, hz, -at_nn]
    · simp [lawCell, h2, hn2, hz, -at_nn]
  · have hl : ns.length = 0 := by omega
    unfold cellV
    simp [lawCell, hl]
theorem row_runP {k c r : Nat} {md md' : List Md} (hm : md = [.ln, .ln]) (hm' : md' = [.ln, .ln]) (hc : P.fns[c]? = some ⟨2, 3, lawCell, md⟩) (hr : P.fns[r]? = some ⟨2, 5, lawRow c, md'⟩) (ns : List Int) (i : Int) : callQ P n (k + 2) r [.scr (ns.map .int), .int i] S = .val (.int (rowV ns i)) S := by
  rw [callQ_succ hr rfl]
  subst hm
  have h2 := cell_runP (n := n) (k := k) (S := S) rfl hc ns i
  unfold rowV
  generalize cellV ns i = z at h2
  generalize ho : (z * 48271 + i * 69621 + 12345) % 2147483647 = one
  have b1 : 0 ≤ one ∧ one < 2147483647 := by subst ho; omega
  dsimp only
  generalize ht : (one * one + 16807 * i + 7) % 2147483629 = two
  have b2 : 0 ≤ two ∧ two < 2147483629 := by subst ht; omega
  by_cases hi : i < (ns.length : Int)
  · by_cases hz : 1000000000 ≤ z
    · simp [lawRow, h2, hc, hi, hz]
    · simp [lawRow, h2, hc, hi, hz, ho, ht, show one.natAbs < 18446744073709551616 by omega, show two.natAbs < 18446744073709551616 by omega]
  · simp [lawRow, h2, hc, hi, ho, ht, show one.natAbs < 18446744073709551616 by omega, show two.natAbs < 18446744073709551616 by omega]
end
end PyM
set_option linter.all false
set_option autoImplicit false
set_option maxRecDepth 100000
set_option maxHeartbeats 1000000
/-! Running the pure machine: texts. -/
namespace PyM
open PyI
def tx (cs : List Nat) : Str := ⟨cs.toArray⟩
@[simp] theorem tx_len (cs : List Nat) : (tx cs).length = cs.length := by
  show cs.toArray.size = _
  simp
@[simp] theorem tx_list (cs : List Nat) : (tx cs).cps.toList = cs := rfl
theorem tx_app (a b : List Nat) : tx a ++ tx b = tx (a ++ b) := by
  show (⟨a.toArray ++ b.toArray⟩ : Str) = ⟨(a ++ b).toArray⟩
  rw [List.append_toArray]
theorem tx_of (x : Str) : x = tx x.cps.toList := rfl
theorem glued_go : ∀ (cs : List Nat) (acc : Array Nat), (cs.map fun c => tx [c]).foldl (fun (acc : Array Nat) (p : Str) => acc ++ (PySem.Str.ofString "").cps ++ p.cps) acc = acc ++ cs.toArray
  | [], acc => by simp
  | c :: cs, acc => by
    rw [List.map_cons, List.foldl_cons, glued_go cs]
    have e : (PySem.Str.ofString "").cps = #[] := by decide
    rw [e]
    show acc ++ #[] ++ [c].toArray ++ cs.toArray = _
    simp
theorem glued_chars (cs : List Nat) : PySem.Builtin.Str.glued (PySem.Str.ofString "") (cs.map fun c => tx [c]) = tx cs := by
  unfold PySem.Builtin.Str.glued
  cases cs with
  | nil => rfl
  | cons c cs =>
    show (⟨(cs.map fun c => tx [c]).foldl _ (tx [c]).cps⟩ : Str) = _
    rw [glued_go]
    show (⟨[c].toArray ++ cs.toArray⟩ : Str) = ⟨(c :: cs).toArray⟩
    simp
@[simp] theorem memP_sign (c : Nat) (L : List Nat) : memP (.str (tx [c])) (.str (tx L)) = some (decide (c ∈ L)) := rfl
@[simp] theorem lenP_tx {cs : List Nat} (h : cs.length ≤ 16777216) : lenP (.str (tx cs)) = some cs.length := by
  show (if (tx cs).length ≤ LINE then some (tx cs).length else none) = _
  rw [tx_len, if_pos h]
@[simp] theorem biP_ord (c : Nat) : biP .ord [.str (tx [c])] = some (.int c) := rfl
theorem sum_ones (cs : List Nat) : ((cs.map fun c => tx [c]).map fun y : Str => y.length).sum = cs.length := by
  induction cs with
  | nil => rfl
  | cons c cs ih =>
    simp only [List.map_cons, List.sum_cons, ih, tx_len, List.length_cons, List.length_nil]
    omega
theorem join_chars (o : Ow) (cs : List Nat) (h : cs.length ≤ 16777216) : bmP .join (.str "") [.lst o (cs.map fun c => .str (tx [c]))] = some (.str (tx cs)) := by
  have e : (cs.map fun c => Vl.str (tx [c])) = (cs.map fun c => tx [c]).map .str := by rw [List.map_map]; rfl
  show (match asStrsP (cs.map fun c => Vl.str (tx [c])) with
    | some ys => if (ys.map fun y : Str => y.length).sum + ys.length * (PySem.Str.ofString "").length ≤ LINE then some (Vl.str (PySem.Builtin.Str.glued (PySem.Str.ofString "") ys)) else none
    | none => none) = _
  rw [e, asStrsP_map]
  simp only [sum_ones, glued_chars]
  rw [if_pos (by rw [show (PySem.Str.ofString "").length = 0 by decide]; show cs.length + _ * 0 ≤ 16777216; omega)]
theorem ixP_tx {cs : List Nat} {i : Int} {c : Nat} (h : cs.length ≤ 16777216) (h0 : 0 ≤ i) (e : cs[i.toNat]? = some c) : ixP (.str (tx cs)) (.int i) = some (.str (tx [c])) := by
  have lt := (List.getElem?_eq_some_iff.mp e).1
  show (if (tx cs).length ≤ LINE then (atU (tx cs).cps.toList i).map _ else none) = _
  rw [if_pos (by rw [tx_len]; exact h), tx_list, show atU cs i = some c by rw [show i = (i.toNat : Int) by omega, at_nat, e]]
  rfl
theorem addP_tx (a b : List Nat) (h : a.length + b.length ≤ 16777216) : binP .add (.str (tx a)) (.str (tx b)) = some (.str (tx (a ++ b))) := by
  show (if (tx a).length + (tx b).length ≤ LINE then some (Vl.str (tx a ++ tx b)) else none) = _
  rw [if_pos (by rw [tx_len, tx_len]; exact h), tx_app]
section
variable {P : Pg} {cf : Nat → List Vl → OS → RC} {env : VE} {S : OS}
/-- over a text that a name holds -/
theorem evi_tx {i : Nat} {cs : List Nat} (h : env[i]? = some (some (.str (tx cs)))) : eviP P cf (.seq (.var i)) env S = .val ⟨cs.map fun c => .str (tx [c]), []⟩ env S := by
  simp [lnd, h]
  intro a _; rfl
end
/-! four octets -/
def shr (v : Int) : Nat → Int
  | 0 => v
  | n + 1 => shr v n / 256
def octsN (v : Int) (n : Nat) : List Int := (List.range n).map fun i => shr v i % 256
@[simp] theorem octsN_len (v : Int) (n : Nat) : (octsN v n).length = n := by simp [octsN]
theorem octsN_succ (v : Int) (n : Nat) : octsN v (n + 1) = octsN v n ++ [shr v n % 256] := by
  unfold octsN
  rw [List.range_succ, List.map_append]
  rfl
end PyM
namespace PyM
open PyI
theorem addP_str (a b : Str) (h : a.length + b.length ≤ 16777216) : binP .add (.str a) (.str b) = some (.str (a ++ b)) := if_pos h
/-! long blocks, statement by statement -/
@[simp] def hdS : Sts → St
  | .cons s _ => s
  | .nil => .pass
@[simp] def dropS : Nat → Sts → Sts
  | 0, b => b
  | n + 1, .cons _ r => dropS n r
  | _ + 1, .nil => .nil
section
variable {P : Pg} {cf : Nat → List Vl → OS → RC} {n : Nat} {env env1 : VE} {S S1 : OS}
theorem run_at {b : Sts} (i : Nat) (hb : dropS i b = .cons (hdS (dropS i b)) (dropS (i + 1) b)) (e : exP P cf n (hdS (dropS i b)) env S = .nx env1 S1) : exsP P cf n (dropS i b) env S = exsP P cf n (dropS (i + 1) b) env1 S1 := by
  rw [hb, exsP, e]
theorem run_s {b : Sts} (i : Nat) (env1 : VE) (hb : dropS i b = .cons (hdS (dropS i b)) (dropS (i + 1) b)) (e : exP P cf n (hdS (dropS i b)) env S = .nx env1 S) : exsP P cf n (dropS i b) env S = exsP P cf n (dropS (i + 1) b) env1 S := run_at i hb e
@[simp] theorem bmM_insert (us : List Vl) (i : Int) (u : Vl) (h : us.length < 16777216) (h0 : 0 ≤ i) (h1 : i < 9223372036854775808) : bmM .insert us [.int i, u] = some (.non, us.take i.toNat ++ [u] ++ us.drop i.toNat) := if_pos ⟨h, h0, h1⟩
end
end PyM
namespace PyM
open PyI
@[simp] theorem look_hit {α : Type} (f : Nat) (v : α) (fs : List (Nat × α)) : ((f, v) :: fs).lookup f = some v := by simp [List.lookup]
@[simp] theorem look_miss {α : Type} (f g : Nat) (v : α) (fs : List (Nat × α)) (h : ¬ f = g) : ((g, v) :: fs).lookup f = fs.lookup f := by
  rw [List.lookup_cons, show (f == g) = false by simpa using h]
@[simp] theorem look_nil {α : Type} (f : Nat) : ([] : List (Nat × α)).lookup f = none := rfl
@[simp] theorem putF_nil (f : Nat) (v : Vl) : setfP.putF f v [] = [(f, v)] := rfl
@[simp] theorem putF_cons (f g : Nat) (v w : Vl) (r : List (Nat × Vl)) : setfP.putF f v ((g, w) :: r) = if g = f then (f, v) :: r else (g, w) :: setfP.putF f v r := rfl
theorem setfP_at {fl : List (Nat × Nat)} {S : OS} {o c f : Nat} {v : Vl} {fs : List (Nat × Vl)} (h : S[o]? = some (c, fs)) (hl : fs.length < 1000) (hf : fl.contains (c, f) = true) : setfP fl S o f v = some (S.set o (c, setfP.putF f v fs)) := by
  unfold setfP
  rw [h]
  exact if_pos ⟨hl, hf⟩
end PyM
set_option linter.all false
set_option autoImplicit false
set_option maxRecDepth 100000
set_option maxHeartbeats 1000000
/-! Running the pure machine, lazily: each step under a name of its own, what comes behind it untouched until it is reached. -/
namespace PyM
open PyI
section
variable (P : Pg) (n k : Nat)
def xe (b : Bool) (e : E) (env : VE) (S : OS) : RP Vl := evP P (callP P n k) b e env S
def xl (b : Bool) (es : Es) (env : VE) (S : OS) : RP (List Vl) := evsP P (callP P n k) b es env S
def xo (e : Eo) (env : VE) (S : OS) : RP (Option Int) := evoP P (callP P n k) e env S
def xc (e : Eo) (env : VE) (S : OS) : RP Bool := evcP' P (callP P n k) e env S
def xi (e : It) (env : VE) (S : OS) : RP SqP := eviP P (callP P n k) e env S
def xt (e : E) (env : VE) (S : OS) : RP Bool := evtP P (callP P n k) e env S
def xa (lf : List Vl → OS → RC) (md : List Md) (es : Es) (args : List Vl) (env : VE) (S : OS) : RV := evcP P (callP P n k) lf md es args env S
def xs (s : St) (env : VE) (S : OS) : OP := exP P (callP P n k) n s env S
def xb (b : Sts) (env : VE) (S : OS) : OP := exsP P (callP P n k) n b env S
def xh (h : Hs) (as : List Nat) (x : Nat) (env : VE) (S : OS) : OP := exhP P (callP P n k) n h as x env S
end
/-! combinators -/
def OP.sq (o : OP) (f : VE → OS → OP) : OP := match o with
  | .nx e S => f e S
  | o => o
/-- what follows in a block -/
def OP.sqb (o : OP) (P : Pg) (n k : Nat) (r : Sts) : OP := match o with
  | .nx e S => xb P n k r e S
  | o => o
/-- if, by what its test gives -/
def ifK (t : RP Bool) (P : Pg) (n k : Nat) (a b : Sts) : OP := t.out fun t env S => if t = true then xb P n k a env S else xb P n k b env S
section
variable (P : Pg) (n k : Nat)
def kAsg (i : Nat) (x : Vl) (env : VE) (S : OS) : OP := .nx (env.set i (some x)) S
def kRet (x : Vl) (env : VE) (S : OS) : OP := .rt x env S
def kExp (x : Vl) (env : VE) (S : OS) : OP := .nx env S
def kBin2 (o : Bop) (u v : Vl) (env : VE) (S : OS) : RP Vl := ofP env S (binP o u v)
def kBin (o : Bop) (y : E) (u : Vl) (env : VE) (S : OS) : RP Vl := (xe P n k false y env S).bind (kBin2 o u)
def kCmp2 (o : Cop) (u v : Vl) (env : VE) (S : OS) : RP Vl := ofP env S ((cmpP o u v).map .bl)
def kCmp (o : Cop) (y : E) (u : Vl) (env : VE) (S : OS) : RP Vl := (xe P n k false y env S).bind (kCmp2 o u)
/-- the second half of a chain -/
def chK (o : Option Bool) (p : Cop) (z : E) (v : Vl) (env : VE) (S : OS) : RP Vl := match o with
  | some true => (xe P n k false z env S).bind (kCmp2 p v)
  | some false => .val (.bl false) env S
  | none => .stuck
def kCh2 (o p : Cop) (z : E) (u v : Vl) (env : VE) (S : OS) : RP Vl := chK P n k (cmpP o u v) p z v env S
def kCh (o p : Cop) (y z : E) (u : Vl) (env : VE) (S : OS) : RP Vl := (xe P n k (!quiet z) y env S).bind (kCh2 P n k o p z u)
def andK (o : Option Bool) (b : Bool) (y : E) (u : Vl) (env : VE) (S : OS) : RP Vl := match o with
  | some true => xe P n k b y env S
  | some false => .val u env S
  | none => .stuck
def kAnd (b : Bool) (y : E) (u : Vl) (env : VE) (S : OS) : RP Vl := andK P n k (truP u) b y u env S
def orK (o : Option Bool) (b : Bool) (y : E) (u : Vl) (env : VE) (S : OS) : RP Vl := match o with
  | some true => .val u env S
  | some false => xe P n k b y env S
  | none => .stuck
def kOr (b : Bool) (y : E) (u : Vl) (env : VE) (S : OS) : RP Vl := orK P n k (truP u) b y u env S
def kNot (u : Vl) (env : VE) (S : OS) : RP Vl := ofP env S ((truP u).map fun t => .bl (!t))
def ifeK (o : Option Bool) (b : Bool) (x y : E) (env : VE) (S : OS) : RP Vl := match o with
  | some true => xe P n k b x env S
  | some false => xe P n k b y env S
  | none => .stuck
def kIfe (b : Bool) (x y : E) (u : Vl) (env : VE) (S : OS) : RP Vl := ifeK P n k (truP u) b x y env S
def kLst (us : List Vl) (env : VE) (S : OS) : RP Vl := ofP env S (newP us)
def kIx2 (u v : Vl) (env : VE) (S : OS) : RP Vl := ofP env S (ixP u v)
def kIx (y : E) (u : Vl) (env : VE) (S : OS) : RP Vl := (xe P n k false y env S).bind (kIx2 u)
def kCut3 (u : Vl) (i j : Option Int) (env : VE) (S : OS) : RP Vl := ofP env S (cutP u i j)
def kCut2 (hi : Eo) (u : Vl) (i : Option Int) (env : VE) (S : OS) : RP Vl := (xo P n k hi env S).bind (kCut3 u i)
def kCut (lo hi : Eo) (u : Vl) (env : VE) (S : OS) : RP Vl := (xo P n k lo env S).bind (kCut2 P n k hi u)
def kBi (f : Bi) (us : List Vl) (env : VE) (S : OS) : RP Vl := ofP env S (biP f us)
def kTru (x : Vl) (env : VE) (S : OS) : RP Bool := ofP env S (truP x)
def kUs (u : Vl) (us : List Vl) (env : VE) (S : OS) : RP (List Vl) := .val (u :: us) env S
def kUsT (r : Es) (u : Vl) (env : VE) (S : OS) : RP (List Vl) := (xl P n k true r env S).bind (kUs (frz u))
def kUsF (r : Es) (u : Vl) (env : VE) (S : OS) : RP (List Vl) := (xl P n k false r env S).bind (kUs u)
def kXa (lf : List Vl → OS → RC) (md : List Md) (r : Es) (args : List Vl) (u : Vl) (env : VE) (S : OS) : RV := xa P n k lf md r (args ++ [u]) env S
def kCall (es : Es) (env : VE) (S : OS) (f : Nat) : RP Vl := (xa P n k (callP P n k f) (mdOf P f) es [] env S).dn
def kMeth (es : Es) (env : VE) (S : OS) (f i : Nat) : RP Vl := (xa P n k (lfM (callP P n k) f i) (mdOf P f).tail es [] env S).dn
def kMk (c : Nat) (es : Es) (env : VE) (S : OS) (f : Nat) : RP Vl := (xa P n k (lfK (callP P n k) f c) (mdOf P f).tail es [] env S).dn
def kBm2 (f : Bm) (x : Vl) (us : List Vl) (env : VE) (S : OS) : RP Vl := ofP env S (bmP f x us)
def tyK (t : Bool) (f : Bm) (es : Es) (x : Vl) (env : VE) (S : OS) : RP Vl := if t = true then (xl P n k false es env S).bind (kBm2 f x) else .stuck
def kBm (f : Bm) (es : Es) (x : Vl) (env : VE) (S : OS) : RP Vl := tyK P n k (tyP f x) f es x env S
def kFor (t : Tg) (b : Sts) (q : SqP) (env : VE) (S : OS) : OP := endO q.back (loopFP t (xb P n k b) q.items env S)
def kMut (b : Bm) (p : Pl) (ws : List Vl) (env : VE) (S : OS) : RP Vl := mutAt b p ws env S
def kBack {α : Type} (a : α) (u : Unit) (env : VE) (S : OS) : RP α := .val a env S
def kBackX {α : Type} (c : Nat) (u : Unit) (env : VE) (S : OS) : RP α := .exc c env S
end
def mth2 (o : Option Nat) (q : Option Vl) (k : Nat → Nat → RP Vl) (i : Nat) : RP Vl := match o, q with
  | some f, none => k f i
  | _, _ => .stuck
def mth1 (o : Option (Nat × List (Nat × Vl))) (P : Pg) (m : Nat) (k : Nat → Nat → RP Vl) (i : Nat) : RP Vl := match o with
  | some (c, fs) => mth2 (P.meths.lookup (c, m)) (fs.lookup m) k i
  | _ => .stuck
def methV (P : Pg) (n k m : Nat) (es : Es) (x : Vl) (env : VE) (S : OS) : RP Vl := match x with
  | .obj i => mth1 S[i]? P m (kMeth P n k es env S) i
  | _ => .stuck
def lkF (o : Option (Nat × List (Nat × Vl))) (f : Nat) : Option Vl := match o with
  | some (_, fs) => fs.lookup f
  | none => none
def rdV (o : Option Vl) (env : VE) (S : OS) : RP Vl := match o with
  | some .tkn => .stuck
  | some v => .val v env S
  | none => .stuck
def kpV (o : Option Vl) (p : Pl) (env : VE) (S : OS) : RP Vl := match o with
  | some v => match kd v with
    | .flat => .val v env S
    | .own => .val (frz v) (putE env p (frz v)) (putS S p (frz v))
    | .bad => .stuck
  | none => .stuck
def mvV (o : Option Vl) (i : Nat) (env : VE) (S : OS) : RP Vl := match o with
  | some v => match kd v with
    | .flat => .val v env S
    | .own => .val v (env.set i none) S
    | .bad => .stuck
  | none => .stuck
def fldV (k : Bool) (f : Nat) (x : Vl) (env : VE) (S : OS) : RP Vl := match x with
  | .obj o => if k then keepP (.fld o f) env S else readP (.fld o f) env S
  | _ => .stuck
def negV (x : Vl) (env : VE) (S : OS) : RP Vl := match x with
  | .int i => .val (.int (-i)) env S
  | _ => .stuck
def tupV (us : List Vl) (env : VE) (S : OS) : RP Vl := if us.length ≤ LINE then .val (.tup us) env S else .stuck
def optV (x : Vl) (env : VE) (S : OS) : RP (Option Int) := match x with
  | .int i => .val (some i) env S
  | _ => .stuck
/-- a place lent -/
def lnV (o : Option Vl) (p : Pl) (env : VE) (S : OS) (k : Vl → VE → OS → RV) : RV := match o with
  | some (.lst .own us) => (k (.lst .lent us) (putE env p (.lst .lent us)) (putS S p (.lst .lent us))).un p
  | some (.dct .own us) => (k (.dct .lent us) (putE env p (.dct .lent us)) (putS S p (.dct .lent us))).un p
  | some .tkn => .stuck
  | some v => k v env S
  | none => .stuck
def tkV (o : Option Vl) (p : Pl) (j : Nat) (env : VE) (S : OS) (k : Vl → VE → OS → RV) : RV := match o with
  | some v => match kd v with
    | .flat => k v env S
    | .own => (k v (putE env p .tkn) (putS S p .tkn)).gv p j
    | .bad => .stuck
  | none => .stuck
def bndV (ts : List Nat) (x : Vl) (env : VE) (S : OS) : OP := match bindP (.tp ts) x env with
  | some env1 => .nx env1 S
  | none => .stuck
def nxV (o : Option OS) (env : VE) : OP := match o with
  | some S1 => .nx env S1
  | none => .stuck
def setfV (P : Pg) (f : Nat) (u x : Vl) (env : VE) (S : OS) : OP := match x with
  | .obj n => nxV (setfP P.flds S n f u) env
  | _ => .stuck
def intO (o : Option Vl) (k : Int → OP) : OP := match o with
  | some (.int a) => k a
  | _ => .stuck
def fnO (o : Option Vl) (k : Nat → RP Vl) : RP Vl := match o with
  | some (.fn f) => k f
  | _ => .stuck
def natO (o : Option Nat) (k : Nat → RP Vl) : RP Vl := match o with
  | some f => k f
  | none => .stuck
def listO (o : Option (List Nat)) (k : List Nat → OP) : OP := match o with
  | some f => k f
  | none => .stuck
def RP.unl {α : Type} (p : Pl) : RP α → RP α
  | .val a env S => (unlend p env S).bind fun _ env S => .val a env S
  | .exc c env S => (unlend p env S).bind fun _ env S => .exc c env S
  | .stuck => .stuck
/-- a list, a dict that is changed by a method -/
def mutV (o : Option Vl) (p : Pl) (q : Bool) (b : Bm) (env : VE) (S : OS) (r : VE → OS → RP (List Vl)) : RP Vl := match o with
  | some (.lst .own us) => if (!dB b) = true then (if q = true then (r env S).bind (kMut b p) else ((r (putE env p (.lst .lent us)) (putS S p (.lst .lent us))).unl p).bind (kMut b p)) else .stuck
  | some (.dct .own us) => if dB b = true then (if q = true then (r env S).bind (kMut b p) else ((r (putE env p (.dct .lent us)) (putS S p (.dct .lent us))).unl p).bind (kMut b p)) else .stuck
  | _ => .stuck
def augV (i : Nat) (o : Bop) (a : Int) (y : Vl) (env : VE) (S : OS) : OP := match o, y with
  | .add, .int b => .nx (env.set i (some (.int (a + b)))) S
  | .sub, .int b => .nx (env.set i (some (.int (a - b)))) S
  | _, _ => .stuck
def kSetf (P : Pg) (n k : Nat) (o : E) (f : Nat) (u : Vl) (env : VE) (S : OS) : OP := (xe P n k false o env S).out (setfV P f u)
def kAug (P : Pg) (n k : Nat) (i : Nat) (o : Bop) (e : E) (env : VE) (S : OS) (a : Int) : OP := (xe P n k false e env S).out (augV i o a)
def seqV (x : Vl) (bk : List Pl) (env : VE) (S : OS) : RP SqP := match x with
  | .str s => .val ⟨s.cps.toList.map fun c => .str ⟨#[c]⟩, bk⟩ env S
  | v => match itemsP v with
    | some us => .val ⟨us, bk⟩ env S
    | none => .stuck
def revV (x : Vl) (bk : List Pl) (env : VE) (S : OS) : RP SqP := match itemsP x with
  | some us => .val ⟨us.reverse, bk⟩ env S
  | none => .stuck
def enumV (x : Vl) (bk : List Pl) (env : VE) (S : OS) : RP SqP := match x with
  | .lst _ us => .val ⟨us.zipIdx.map fun p => .tup [.int p.2, p.1], bk⟩ env S
  | _ => .stuck
def rng1V (x : Vl) (env : VE) (S : OS) : RP SqP := match x with
  | .int n => if n.natAbs < 4611686018427387904 then .val ⟨(List.range n.toNat).map fun (k : Nat) => .int k, []⟩ env S else .stuck
  | _ => .stuck
def rrng1V (x : Vl) (env : VE) (S : OS) : RP SqP := match x with
  | .int n => if n.natAbs < 4611686018427387904 then .val ⟨((List.range n.toNat).map fun (k : Nat) => .int k).reverse, []⟩ env S else .stuck
  | _ => .stuck
def rng2V (x y : Vl) (env : VE) (S : OS) : RP SqP := match x, y with
  | .int i, .int j => if i.natAbs < 4611686018427387904 ∧ j.natAbs < 4611686018427387904 then .val ⟨(List.range (j - i).toNat).map fun (k : Nat) => .int (i + k), []⟩ env S else .stuck
  | _, _ => .stuck
def zipV (x y : Vl) (bk : List Pl) (env : VE) (S : OS) : RP SqP := match x, y with
  | .lst _ us, .lst _ ws => if us.length = ws.length then .val ⟨(us.zip ws).map fun z => .tup [z.1, z.2], bk⟩ env S else .stuck
  | _, _ => .stuck
def kSeq (f : Vl → List Pl → VE → OS → RP SqP) (x : Vl) (env : VE) (S : OS) : RP SqP := f x [] env S
/-- a walk over a lent place -/
def lnQ (o : Option Vl) (p : Pl) (env : VE) (S : OS) (k : Vl → List Pl → VE → OS → RP SqP) : RP SqP := match o with
  | some (.lst .own us) => k (.lst .lent us) [p] (putE env p (.lst .lent us)) (putS S p (.lst .lent us))
  | some (.dct .own us) => k (.dct .lent us) [p] (putE env p (.dct .lent us)) (putS S p (.dct .lent us))
  | some .tkn => .stuck
  | some v => k v [] env S
  | none => .stuck
def kTry (f : List Nat → Nat → VE → OS → OP) (x : Nat) (env : VE) (S : OS) (as : List Nat) : OP := f as x env S
def tryV (P : Pg) (o : OP) (f : List Nat → Nat → VE → OS → OP) : OP := match o with
  | .exc x env1 S1 => listO (P.excs.lookup x) fun as => f as x env1 S1
  | o => o
section
variable {P : Pg} {n k : Nat} {env : VE} {S : OS} {α β : Type}
/-! ### statements -/
theorem xb_nil : xb P n k .nil env S = .nx env S := rfl
theorem xb_cons {s : St} {r : Sts} : xb P n k (.cons s r) env S = (xs P n k s env S).sqb P n k r := by
  unfold xb; rw [exsP]; rfl
theorem sqb_nx {r : Sts} : (OP.nx env S).sqb P n k r = xb P n k r env S := rfl
theorem sqb_rt {u : Vl} {r : Sts} : (OP.rt u env S).sqb P n k r = .rt u env S := rfl
theorem sqb_bk {r : Sts} : (OP.bk env S).sqb P n k r = .bk env S := rfl
theorem sqb_ct {r : Sts} : (OP.ct env S).sqb P n k r = .ct env S := rfl
theorem sqb_exc {c : Nat} {r : Sts} : (OP.exc c env S).sqb P n k r = .exc c env S := rfl
theorem sqb_nil {o : OP} : o.sqb P n k .nil = o := by cases o <;> rfl
theorem getF_lk {o f : Nat} : getF S o f = lkF S[o]? f := rfl
theorem lkF_some {c f : Nat} {fs : List (Nat × Vl)} : lkF (some (c, fs)) f = fs.lookup f := rfl
theorem sq_nx {f : VE → OS → OP} : (OP.nx env S).sq f = f env S := rfl
theorem sq_rt {u : Vl} {f : VE → OS → OP} : (OP.rt u env S).sq f = .rt u env S := rfl
theorem sq_bk {f : VE → OS → OP} : (OP.bk env S).sq f = .bk env S := rfl
theorem sq_ct {f : VE → OS → OP} : (OP.ct env S).sq f = .ct env S := rfl
theorem sq_exc {c : Nat} {f : VE → OS → OP} : (OP.exc c env S).sq f = .exc c env S := rfl
theorem xs_asg {i : Nat} {e : E} : xs P n k (.asg (.nm i) e) env S = (xe P n k true e env S).out (kAsg i) := by
  unfold xs; rw [exP]; rfl
theorem xs_asgT {ts : List Nat} {e : E} : xs P n k (.asg (.tp ts) e) env S = (xe P n k true e env S).out (bndV ts) := by
  unfold xs; rw [exP]; rfl
theorem xs_setf {o : E} {f : Nat} {e : E} (h : quiet o = true) : xs P n k (.setf o f e) env S = (xe P n k true e env S).out (kSetf P n k o f) := by
  unfold xs; rw [exP, if_pos h]; rfl
theorem xs_aug {i : Nat} {o : Bop} {e : E} : xs P n k (.aug i o e) env S = intO env[i]?.join (kAug P n k i o e env S) := by
  unfold xs; rw [exP]
  rcases env[i]?.join with _ | u <;> try rfl
theorem xs_exp {e : E} : xs P n k (.exp e) env S = (xe P n k false e env S).out kExp := by
  unfold xs; rw [exP]; rfl
theorem xs_ret {e : E} : xs P n k (.ret e) env S = (xe P n k true e env S).out kRet := by
  unfold xs; rw [exP]; rfl
theorem xs_retN : xs P n k .retN env S = .rt .non env S := rfl
theorem xs_if {c : E} {a b : Sts} : xs P n k (.ifS c a b) env S = ifK (xt P n k c env S) P n k a b := by
  unfold xs; rw [exP]; rfl
theorem ifK_t {a b : Sts} : ifK (.val true env S) P n k a b = xb P n k a env S := rfl
theorem ifK_f {a b : Sts} : ifK (.val false env S) P n k a b = xb P n k b env S := rfl
theorem ifK_x {a b : Sts} {c : Nat} : ifK (.exc c env S) P n k a b = .exc c env S := rfl
theorem xs_for {t : Tg} {it : It} {b : Sts} : xs P n k (.for_ t it b) env S = (xi P n k it env S).out (kFor P n k t b) := by
  unfold xs; rw [exP]; rfl
theorem eFor {t : Tg} {b : Sts} {q : SqP} : kFor P n k t b q env S = endO q.back (loopFP t (xb P n k b) q.items env S) := rfl
theorem xs_whl {c : E} {b : Sts} : xs P n k (.whl c b) env S = loopWP (xt P n k c) (xb P n k b) n env S := by
  unfold xs; rw [exP]; rfl
theorem xs_brk : xs P n k .brk env S = .bk env S := rfl
theorem xs_cnt : xs P n k .cnt env S = .ct env S := rfl
theorem xs_pass : xs P n k .pass env S = .nx env S := rfl
theorem xs_raise {c : Nat} {es : Es} (h : P.inits.lookup c = none) : xs P n k (.raise c es) env S = .exc c env S := by
  unfold xs; rw [exP, h]
theorem xs_try {b : Sts} {hs : Hs} : xs P n k (.tryM b hs) env S = tryV P (xb P n k b env S) (xh P n k hs) := by
  unfold xs; rw [exP]
  show _ = tryV P (exsP P (callP P n k) n b env S) _
  cases exsP P (callP P n k) n b env S <;> rfl
theorem try_nx {f : List Nat → Nat → VE → OS → OP} : tryV P (.nx env S) f = .nx env S := rfl
theorem try_rt {u : Vl} {f : List Nat → Nat → VE → OS → OP} : tryV P (.rt u env S) f = .rt u env S := rfl
theorem try_exc {x : Nat} {f : List Nat → Nat → VE → OS → OP} : tryV P (.exc x env S) f = listO (P.excs.lookup x) (kTry f x env S) := rfl
theorem listO_some {as : List Nat} {f : List Nat → OP} : listO (some as) f = f as := rfl
theorem natO_some {a : Nat} {f : Nat → RP Vl} : natO (some a) f = f a := rfl
theorem fnO_some {a : Nat} {f : Nat → RP Vl} : fnO (some (.fn a)) f = f a := rfl
theorem intO_some {a : Int} {f : Int → OP} : intO (some (.int a)) f = f a := rfl
theorem xh_nil {as : List Nat} {x : Nat} : xh P n k .nil as x env S = .exc x env S := rfl
theorem xh_cons {c : Nat} {h : Sts} {r : Hs} {as : List Nat} {x : Nat} : xh P n k (.cons c h r) as x env S = if c ∈ as then noXoP (xb P n k h env S) else xh P n k r as x env S := by
  unfold xh; rw [exhP]; rfl
theorem bnd2 {i j : Nat} {a b : Vl} : bndV [i, j] (.tup [a, b]) env S = .nx ((env.set i (some a)).set j (some b)) S := rfl
theorem bnd1 {i : Nat} {a : Vl} : bndV [i] (.tup [a]) env S = .nx (env.set i (some a)) S := rfl
theorem bnd3 {i j l : Nat} {a b c : Vl} : bndV [i, j, l] (.tup [a, b, c]) env S = .nx (((env.set i (some a)).set j (some b)).set l (some c)) S := rfl
theorem bnd4 {i j l m : Nat} {a b c d : Vl} : bndV [i, j, l, m] (.tup [a, b, c, d]) env S = .nx ((((env.set i (some a)).set j (some b)).set l (some c)).set m (some d)) S := rfl
theorem setf_obj {o f : Nat} {u : Vl} : setfV P f u (.obj o) env S = nxV (setfP P.flds S o f u) env := rfl
theorem nxV_some {S1 : OS} : nxV (some S1) env = .nx env S1 := rfl
theorem aug_add {i : Nat} {a b : Int} : augV i .add a (.int b) env S = .nx (env.set i (some (.int (a + b)))) S := rfl
theorem aug_sub {i : Nat} {a b : Int} : augV i .sub a (.int b) env S = .nx (env.set i (some (.int (a - b)))) S := rfl
/-! ### expressions -/
theorem xt_eq {e : E} : xt P n k e env S = (xe P n k false e env S).bind kTru := rfl
theorem xe_var {i : Nat} : xe P n k false (.var i) env S = rdV env[i]?.join env S := by
  unfold xe; rw [evP]; rfl
theorem xe_varT {i : Nat} : xe P n k true (.var i) env S = kpV env[i]?.join (.var i) env S := by
  unfold xe; rw [evP]; rfl
theorem xe_mov {i : Nat} : xe P n k false (.mov i) env S = rdV env[i]?.join env S := by
  unfold xe; rw [evP]; rfl
theorem xe_movT {i : Nat} : xe P n k true (.mov i) env S = mvV env[i]?.join i env S := by
  unfold xe; rw [evP]; rfl
theorem xe_int {b : Bool} {i : Int} : xe P n k b (.int i) env S = .val (.int i) env S := rfl
theorem xe_str {b : Bool} {i : Str} : xe P n k b (.str i) env S = .val (.str i) env S := rfl
theorem xe_bl {b : Bool} {i : Bool} : xe P n k b (.bl i) env S = .val (.bl i) env S := rfl
theorem xe_non {b : Bool} : xe P n k b .non env S = .val .non env S := rfl
theorem xe_fnv {b : Bool} {i : Nat} : xe P n k b (.fnv i) env S = .val (.fn i) env S := rfl
theorem xe_glo {b : Bool} {i : Nat} : xe P n k b (.glo i) env S = ofP env S (P.glo[i]?.bind toV) := by
  unfold xe; rw [evP]
theorem xe_bin {b : Bool} {o : Bop} {x y : E} : xe P n k b (.bin o x y) env S = (xe P n k (!quiet y) x env S).bind (kBin P n k o y) := by
  unfold xe; rw [evP]; rfl
theorem xe_neg {b : Bool} {x : E} : xe P n k b (.neg x) env S = (xe P n k false x env S).bind negV := by
  unfold xe; rw [evP]; rfl
theorem xe_cmp {b : Bool} {o : Cop} {x y : E} : xe P n k b (.cmp o x y) env S = (xe P n k (!quiet y) x env S).bind (kCmp P n k o y) := by
  unfold xe; rw [evP]; rfl
theorem xe_cmp2 {b : Bool} {o p : Cop} {x y z : E} : xe P n k b (.cmp2 o p x y z) env S = (xe P n k (!(quiet y && quiet z)) x env S).bind (kCh P n k o p y z) := by
  unfold xe; rw [evP]; rfl
theorem xe_and {b : Bool} {x y : E} : xe P n k b (.and x y) env S = (xe P n k b x env S).bind (kAnd P n k b y) := by
  unfold xe; rw [evP]; rfl
theorem xe_or {b : Bool} {x y : E} : xe P n k b (.or x y) env S = (xe P n k b x env S).bind (kOr P n k b y) := by
  unfold xe; rw [evP]; rfl
theorem xe_not {b : Bool} {x : E} : xe P n k b (.not x) env S = (xe P n k false x env S).bind kNot := by
  unfold xe; rw [evP]; rfl
theorem xe_ife {b : Bool} {c x y : E} : xe P n k b (.ife c x y) env S = (xe P n k false c env S).bind (kIfe P n k b x y) := by
  unfold xe; rw [evP]; rfl
theorem xe_tup {b : Bool} {es : Es} : xe P n k b (.tup es) env S = (xl P n k true es env S).bind tupV := by
  unfold xe; rw [evP]; rfl
theorem xe_lst {b : Bool} {es : Es} : xe P n k b (.lst es) env S = (xl P n k true es env S).bind kLst := by
  unfold xe; rw [evP]; rfl
theorem xe_ix {b : Bool} {x y : E} : xe P n k b (.ix x y) env S = (xe P n k (!quiet y) x env S).bind (kIx P n k y) := by
  unfold xe; rw [evP]; rfl
theorem xe_cut {b : Bool} {x : E} {lo hi : Eo} : xe P n k b (.cut x lo hi) env S = (xe P n k (!(quietO lo && quietO hi)) x env S).bind (kCut P n k lo hi) := by
  unfold xe; rw [evP]; rfl
theorem xe_fld {b : Bool} {x : E} {f : Nat} : xe P n k b (.fld x f) env S = (xe P n k false x env S).bind (fldV b f) := by
  unfold xe; rw [evP]; rfl
theorem xe_call {b : Bool} {f : Nat} {es : Es} : xe P n k b (.call f es) env S = (xa P n k (callP P n k f) (mdOf P f) es [] env S).dn := by
  unfold xe; rw [evP]; rfl
theorem xe_callv {b : Bool} {x : Nat} {es : Es} : xe P n k b (.callv x es) env S = fnO env[x]?.join (kCall P n k es env S) := by
  unfold xe; rw [evP]
  rcases env[x]?.join with _ | u <;> rfl
theorem xe_meth {b : Bool} {m : Nat} {o : E} {es : Es} : xe P n k b (.meth m o es) env S = (xe P n k false o env S).bind (methV P n k m es) := by
  unfold xe; rw [evP]
  show RP.bind _ _ = RP.bind _ _
  rfl
theorem xe_mk {b : Bool} {c : Nat} {es : Es} : xe P n k b (.mk c es) env S = natO (P.inits.lookup c) (kMk P n k c es env S) := by
  unfold xe; rw [evP]; rfl
theorem xe_bi {b : Bool} {f : Bi} {es : Es} : xe P n k b (.bi f es) env S = (xl P n k false es env S).bind (kBi f) := by
  unfold xe; rw [evP]; rfl
theorem xe_dict0 {b : Bool} : xe P n k b .dict0 env S = .val (.dct .own []) env S := rfl
theorem bmV_ok {b : Bool} {f : Bm} {o : E} {p : Pl} {es : Es} (hm : mutB f = true) (hp : plc env S o = some p) : xe P n k b (.bm f o es) env S = mutV (getP env S p) p (quiets es) f env S (xl P n k true es) := by
  unfold xe; rw [evP, if_pos hm, hp]
  show (if ownM f (getP env S p) = true then _ else _) = _
  have hl : ∀ (w : Vl), lend p env S = .val (w, some p) (putE env p w) (putS S p w) → lendDo p env S (fun env S => evsP P (callP P n k) true es env S) = RP.unl p (evsP P (callP P n k) true es (putE env p w) (putS S p w)) := fun w hw => by
    unfold lendDo
    rw [hw, rp_bind_val]
    simp only
    cases evsP P (callP P n k) true es (putE env p w) (putS S p w) <;> rfl
  cases h : getP env S p with
  | none => rfl
  | some v =>
    cases v with
    | lst o us =>
      cases o with
      | own =>
        have hw := hl (.lst .lent us) (by unfold lend; rw [h])
        rw [hw]
        unfold ownM mutV
        cases dB f <;> cases quiets es <;> rfl
      | _ => rfl
    | dct o us =>
      cases o with
      | own =>
        have hw := hl (.dct .lent us) (by unfold lend; rw [h])
        rw [hw]
        unfold ownM mutV
        cases dB f <;> cases quiets es <;> rfl
      | _ => rfl
    | _ => rfl
def kDctL2 (o : Option (List (Key × Vl))) (env : VE) (S : OS) : RP Vl := match o with
  | some kvs => if kvs.length ≤ 15 then .val (.dct .own (mergeKV kvs)) env S else .stuck
  | none => .stuck
def kDctL (us : List Vl) (env : VE) (S : OS) : RP Vl := kDctL2 (pairsP us) env S
theorem xe_dctL {b : Bool} {es : Es} : xe P n k b (.dctL es) env S = (xl P n k true es env S).bind kDctL := by
  unfold xe; rw [evP]; rfl
theorem eDctL {us : List Vl} : kDctL us env S = kDctL2 (pairsP us) env S := rfl
theorem eDctL2 {kvs : List (Key × Vl)} (h : kvs.length ≤ 15) : kDctL2 (some kvs) env S = .val (.dct .own (mergeKV kvs)) env S := if_pos h
theorem pairs_nil : pairsP [] = some [] := rfl
theorem pairs_s {x : Str} {v : Vl} {r : List Vl} : pairsP (.str x :: v :: r) = (pairsP r).map fun kvs => (Key.s x, v) :: kvs := by
  show (match some (Key.s x), pairsP r with | some q, some kvs => _ | _, _ => _) = _
  cases pairsP r <;> rfl
theorem pairs_i {x : Int} {v : Vl} {r : List Vl} : pairsP (.int x :: v :: r) = (pairsP r).map fun kvs => (Key.i x, v) :: kvs := by
  show (match some (Key.i x), pairsP r with | some q, some kvs => _ | _, _ => _) = _
  cases pairsP r <;> rfl
/-- a method that changes the list of a name, of a field -/
theorem xe_bmV {b : Bool} {f : Bm} {i : Nat} {es : Es} (hm : mutB f = true) : xe P n k b (.bm f (.var i) es) env S = mutV env[i]?.join (.var i) (quiets es) f env S (xl P n k true es) := bmV_ok (o := .var i) (p := .var i) hm rfl
def kBmF (P : Pg) (n k : Nat) (f : Bm) (g : Nat) (es : Es) (env : VE) (S : OS) (m : Nat) : RP Vl := mutV (getF S m g) (.fld m g) (quiets es) f env S (xl P n k true es)
def objO (o : Option Vl) (k : Nat → RP Vl) : RP Vl := match o with
  | some (.obj a) => k a
  | _ => .stuck
theorem objO_some {a : Nat} {f : Nat → RP Vl} : objO (some (.obj a)) f = f a := rfl
theorem xe_bmF {b : Bool} {f : Bm} {e : E} {g : Nat} {es : Es} (hm : mutB f = true) : xe P n k b (.bm f (.fld e g) es) env S = objO (valE env S e) (kBmF P n k f g es env S) := by
  cases h : valE env S e with
  | none => unfold xe; rw [evP, if_pos hm]; simp only [plc, h]; rfl
  | some v => cases v <;> first | (unfold xe; rw [evP, if_pos hm]; simp only [plc, h]; rfl; done) | exact bmV_ok (o := .fld e g) (p := .fld _ g) hm (by simp only [plc, h])
theorem eBmF {f : Bm} {g : Nat} {es : Es} {m : Nat} : kBmF P n k f g es env S m = mutV (getF S m g) (.fld m g) (quiets es) f env S (xl P n k true es) := rfl
theorem mutV_q {us : List Vl} {p : Pl} {b : Bm} {r : VE → OS → RP (List Vl)} (h : dB b = false) : mutV (some (.lst .own us)) p true b env S r = (r env S).bind (kMut b p) := by
  unfold mutV; rw [h]; rfl
theorem mutV_qD {us : List (Key × Vl)} {p : Pl} {b : Bm} {r : VE → OS → RP (List Vl)} (h : dB b = true) : mutV (some (.dct .own us)) p true b env S r = (r env S).bind (kMut b p) := by
  unfold mutV; rw [h]; rfl
theorem mutV_n {us : List Vl} {p : Pl} {b : Bm} {r : VE → OS → RP (List Vl)} (h : dB b = false) : mutV (some (.lst .own us)) p false b env S r = ((r (putE env p (.lst .lent us)) (putS S p (.lst .lent us))).unl p).bind (kMut b p) := by
  unfold mutV; rw [h]; rfl
theorem mutV_nD {us : List (Key × Vl)} {p : Pl} {b : Bm} {r : VE → OS → RP (List Vl)} (h : dB b = true) : mutV (some (.dct .own us)) p false b env S r = ((r (putE env p (.dct .lent us)) (putS S p (.dct .lent us))).unl p).bind (kMut b p) := by
  unfold mutV; rw [h]; rfl
theorem xe_bm {b : Bool} {f : Bm} {o : E} {es : Es} (hm : mutB f = false) : xe P n k b (.bm f o es) env S = (xe P n k (!quiets es) o env S).bind (kBm P n k f es) := by
  unfold xe; rw [evP, hm]
  show RP.bind _ _ = RP.bind _ _
  congr 1; funext x env S
  unfold kBm tyK
  cases tyP f x <;> rfl
theorem unl_val {p : Pl} {a : α} : (RP.val a env S).unl p = (unlend p env S).bind (kBack a) := rfl
theorem unl_exc {p : Pl} {c : Nat} : (RP.exc c env S : RP α).unl p = (unlend p env S).bind (kBackX c) := rfl
/-! values of places -/
theorem rd_int {i : Int} : rdV (some (.int i)) env S = .val (.int i) env S := rfl
theorem rd_str {i : Str} : rdV (some (.str i)) env S = .val (.str i) env S := rfl
theorem rd_bl {i : Bool} : rdV (some (.bl i)) env S = .val (.bl i) env S := rfl
theorem rd_non : rdV (some .non) env S = .val .non env S := rfl
theorem rd_tup {us : List Vl} : rdV (some (.tup us)) env S = .val (.tup us) env S := rfl
theorem rd_lst {o : Ow} {us : List Vl} : rdV (some (.lst o us)) env S = .val (.lst o us) env S := rfl
theorem rd_dct {o : Ow} {us : List (Key × Vl)} : rdV (some (.dct o us)) env S = .val (.dct o us) env S := rfl
theorem rd_obj {i : Nat} : rdV (some (.obj i)) env S = .val (.obj i) env S := rfl
theorem rd_fn {i : Nat} : rdV (some (.fn i)) env S = .val (.fn i) env S := rfl
theorem rd_scr {us : List Vl} : rdV (some (.scr us)) env S = .val (.scr us) env S := rfl
theorem kp_ownL {us : List Vl} {i : Nat} : kpV (some (.lst .own us)) (.var i) env S = .val (.lst .no us) (env.set i (some (.lst .no us))) S := rfl
theorem kp_ownLF {us : List Vl} {o f : Nat} : kpV (some (.lst .own us)) (.fld o f) env S = .val (.lst .no us) env (setF S o f (.lst .no us)) := rfl
theorem kp_ownD {us : List (Key × Vl)} {i : Nat} : kpV (some (.dct .own us)) (.var i) env S = .val (.dct .no us) (env.set i (some (.dct .no us))) S := rfl
theorem mv_ownL {us : List Vl} {i : Nat} : mvV (some (.lst .own us)) i env S = .val (.lst .own us) (env.set i none) S := rfl
theorem mv_ownD {us : List (Key × Vl)} {i : Nat} : mvV (some (.dct .own us)) i env S = .val (.dct .own us) (env.set i none) S := rfl
theorem fld_f {o f : Nat} : fldV false f (.obj o) env S = rdV (getF S o f) env S := rfl
theorem fld_t {o f : Nat} : fldV true f (.obj o) env S = kpV (getF S o f) (.fld o f) env S := rfl
theorem neg_int {i : Int} : negV (.int i) env S = .val (.int (-i)) env S := rfl
theorem tup_of {us : List Vl} (h : us.length ≤ 16777216) : tupV us env S = .val (.tup us) env S := if_pos h
theorem opt_int {i : Int} : optV (.int i) env S = .val (some i) env S := rfl
theorem xl_nil {b : Bool} : xl P n k b .nil env S = .val [] env S := rfl
theorem xl_consT {e : E} {r : Es} : xl P n k true (.cons e r) env S = (xe P n k true e env S).bind (kUsT P n k r) := by
  unfold xl; rw [evsP]; rfl
theorem xl_consF {e : E} {r : Es} : xl P n k false (.cons e r) env S = (xe P n k (!quiets r) e env S).bind (kUsF P n k r) := by
  unfold xl; rw [evsP]; rfl
theorem xo_none : xo P n k .none env S = .val none env S := rfl
theorem xo_some {e : E} : xo P n k (.some e) env S = (xe P n k false e env S).bind optV := by
  unfold xo; rw [evoP]; rfl
/-! calls -/
theorem xa_nil {lf : List Vl → OS → RC} {md : List Md} {args : List Vl} : xa P n k lf md .nil args env S = (lf args S).up env := by
  unfold xa; rw [evcP]
theorem xa_kp {lf : List Vl → OS → RC} {md : List Md} {e : E} {r : Es} {args : List Vl} : xa P n k lf (.kp :: md) (.cons e r) args env S = (xe P n k true e env S).arg (kXa P n k lf md r args) := by
  unfold xa; rw [evcP]; rfl
theorem ln_of {p : Pl} {r : RP Vl} {f : Vl → VE → OS → RV} : lendA (lnd (some p) env S r) f = lnV (getP env S p) p env S f := by
  show lendA (lend p env S) f = _
  unfold lend lnV
  rcases getP env S p with _ | v
  · rfl
  · cases v <;> try rfl
    · rename_i o us; cases o <;> rfl
    · rename_i o us; cases o <;> rfl
theorem xa_lnV {lf : List Vl → OS → RC} {md : List Md} {i : Nat} {r : Es} {args : List Vl} : xa P n k lf (.ln :: md) (.cons (.var i) r) args env S = lnV env[i]?.join (.var i) env S (kXa P n k lf md r args) := by
  unfold xa; rw [evcP]; exact ln_of
theorem xa_lnF {lf : List Vl → OS → RC} {md : List Md} {e : E} {g : Nat} {r : Es} {args : List Vl} : xa P n k lf (.ln :: md) (.cons (.fld e g) r) args env S = lendA (lnd (plc env S (.fld e g)) env S (xe P n k true (.fld e g) env S)) (kXa P n k lf md r args) := by
  unfold xa; rw [evcP]; rfl
theorem ln_fld {o f : Nat} {r : RP Vl} {h : Vl → VE → OS → RV} : lendA (lnd (some (.fld o f)) env S r) h = lnV (getF S o f) (.fld o f) env S h := ln_of
theorem ln_none {r : RP Vl} {f : Vl → VE → OS → RV} : lendA (lnd none env S r) f = r.arg f := by
  show lendA (r.bind _) f = _
  cases r <;> rfl
/-- an argument that names no place -/
def notPl : E → Bool
  | .var _ => false
  | .mov _ => false
  | .fld _ _ => false
  | _ => true
theorem plc_not {e : E} (h : notPl e = true) : plc env S e = none := by cases e <;> first | rfl | cases h
theorem xa_ln {lf : List Vl → OS → RC} {md : List Md} {e : E} {r : Es} {args : List Vl} (h : notPl e = true) : xa P n k lf (.ln :: md) (.cons e r) args env S = (xe P n k true e env S).arg (kXa P n k lf md r args) := by
  unfold xa; rw [evcP]
  show lendA (lnd (plc env S e) env S _) _ = _
  rw [plc_not h]
  exact ln_none
theorem tk_of {p : Pl} {j : Nat} {r : RP Vl} {f : Vl → VE → OS → RV} : takeA j (tak (some p) env S r) f = tkV (getP env S p) p j env S f := by
  show takeA j (takeP p env S) f = _
  unfold takeP tkV
  rcases getP env S p with _ | v
  · rfl
  · simp only
    rcases kd v <;> rfl
theorem xa_mtV {lf : List Vl → OS → RC} {md : List Md} {i : Nat} {r : Es} {args : List Vl} : xa P n k lf (.mt :: md) (.cons (.var i) r) args env S = tkV env[i]?.join (.var i) args.length env S (kXa P n k lf md r args) := by
  unfold xa; rw [evcP]; exact tk_of
theorem ln_scr {us : List Vl} {p : Pl} {f : Vl → VE → OS → RV} : lnV (some (.scr us)) p env S f = f (.scr us) env S := rfl
theorem ln_lent {us : List Vl} {p : Pl} {f : Vl → VE → OS → RV} : lnV (some (.lst .lent us)) p env S f = f (.lst .lent us) env S := rfl
theorem ln_lentD {us : List (Key × Vl)} {p : Pl} {f : Vl → VE → OS → RV} : lnV (some (.dct .lent us)) p env S f = f (.dct .lent us) env S := rfl
theorem ln_own {us : List Vl} {p : Pl} {f : Vl → VE → OS → RV} : lnV (some (.lst .own us)) p env S f = (f (.lst .lent us) (putE env p (.lst .lent us)) (putS S p (.lst .lent us))).un p := rfl
theorem ln_ownD {us : List (Key × Vl)} {p : Pl} {f : Vl → VE → OS → RV} : lnV (some (.dct .own us)) p env S f = (f (.dct .lent us) (putE env p (.dct .lent us)) (putS S p (.dct .lent us))).un p := rfl
theorem tk_own {us : List Vl} {p : Pl} {j : Nat} {f : Vl → VE → OS → RV} : tkV (some (.lst .own us)) p j env S f = (f (.lst .own us) (putE env p .tkn) (putS S p .tkn)).gv p j := rfl
theorem meth_obj {m i : Nat} {es : Es} : methV P n k m es (.obj i) env S = mth1 S[i]? P m (kMeth P n k es env S) i := rfl
theorem mth1_some {m i c : Nat} {fs : List (Nat × Vl)} {f : Nat → Nat → RP Vl} : mth1 (some (c, fs)) P m f i = mth2 (P.meths.lookup (c, m)) (fs.lookup m) f i := rfl
theorem mth2_some {g i : Nat} {f : Nat → Nat → RP Vl} : mth2 (some g) none f i = f g i := rfl
/-! what is walked -/
def kRng (P : Pg) (n k : Nat) (b : E) (x : Vl) (env : VE) (S : OS) : RP SqP := (xe P n k false b env S).bind (rng2V x)
theorem q_of {p : Pl} {r : RP Vl} {f : Vl → List Pl → VE → OS → RP SqP} : ((lnd (some p) env S r).bind fun x env S => f x.1 x.2.toList env S) = lnQ (getP env S p) p env S f := by
  show ((lend p env S).bind _) = _
  unfold lend lnQ
  rcases getP env S p with _ | v
  · rfl
  · cases v <;> try rfl
    · rename_i o us; cases o <;> rfl
    · rename_i o us; cases o <;> rfl
theorem q_none {r : RP Vl} {f : Vl → List Pl → VE → OS → RP SqP} : ((lnd none env S r).bind fun x env S => f x.1 x.2.toList env S) = r.bind fun x env S => f x [] env S := by
  show (r.bind _).bind _ = _
  cases r <;> rfl
theorem xi_seqV {i : Nat} : xi P n k (.seq (.var i)) env S = lnQ env[i]?.join (.var i) env S seqV := by
  unfold xi; rw [eviP]; exact q_of (p := .var i) (f := seqV)
theorem xi_seqF {e : E} {g : Nat} : xi P n k (.seq (.fld e g)) env S = (lnd (plc env S (.fld e g)) env S (xe P n k true (.fld e g) env S)).bind fun x env S => seqV x.1 x.2.toList env S := by
  unfold xi; rw [eviP]; rfl
theorem xi_seq {e : E} (h : notPl e = true) : xi P n k (.seq e) env S = (xe P n k true e env S).bind (kSeq seqV) := by
  unfold xi; rw [eviP, plc_not h]; exact q_none (f := seqV)
theorem q_fld {o f : Nat} {r : RP Vl} {h : Vl → List Pl → VE → OS → RP SqP} : ((lnd (some (.fld o f)) env S r).bind fun x env S => h x.1 x.2.toList env S) = lnQ (getF S o f) (.fld o f) env S h := q_of
theorem xi_revV {i : Nat} : xi P n k (.rev (.var i)) env S = lnQ env[i]?.join (.var i) env S revV := by
  unfold xi; rw [eviP]; exact q_of (p := .var i) (f := revV)
theorem xi_rev {e : E} (h : notPl e = true) : xi P n k (.rev e) env S = (xe P n k true e env S).bind (kSeq revV) := by
  unfold xi; rw [eviP, plc_not h]; exact q_none (f := revV)
theorem xi_enumV {i : Nat} : xi P n k (.enum (.var i)) env S = lnQ env[i]?.join (.var i) env S enumV := by
  unfold xi; rw [eviP]; exact q_of (p := .var i) (f := enumV)
theorem xi_enum {e : E} (h : notPl e = true) : xi P n k (.enum e) env S = (xe P n k true e env S).bind (kSeq enumV) := by
  unfold xi; rw [eviP, plc_not h]; exact q_none (f := enumV)
theorem xi_rng1 {e : E} : xi P n k (.rng1 e) env S = (xe P n k false e env S).bind rng1V := by
  unfold xi; rw [eviP]; rfl
theorem xi_rrng1 {e : E} : xi P n k (.rrng1 e) env S = (xe P n k false e env S).bind rrng1V := by
  unfold xi; rw [eviP]; rfl
theorem xi_rng2 {a b : E} : xi P n k (.rng2 a b) env S = (xe P n k false a env S).bind (kRng P n k b) := by
  unfold xi; rw [eviP]; rfl
theorem eRng {b : E} {x : Vl} : kRng P n k b x env S = (xe P n k false b env S).bind (rng2V x) := rfl
theorem lq_scr {us : List Vl} {p : Pl} {f : Vl → List Pl → VE → OS → RP SqP} : lnQ (some (.scr us)) p env S f = f (.scr us) [] env S := rfl
theorem lq_lent {us : List Vl} {p : Pl} {f : Vl → List Pl → VE → OS → RP SqP} : lnQ (some (.lst .lent us)) p env S f = f (.lst .lent us) [] env S := rfl
theorem lq_own {us : List Vl} {p : Pl} {f : Vl → List Pl → VE → OS → RP SqP} : lnQ (some (.lst .own us)) p env S f = f (.lst .lent us) [p] (putE env p (.lst .lent us)) (putS S p (.lst .lent us)) := rfl
theorem seq_lst {o : Ow} {us : List Vl} {bk : List Pl} : seqV (.lst o us) bk env S = .val ⟨us, bk⟩ env S := rfl
theorem seq_tup {us : List Vl} {bk : List Pl} : seqV (.tup us) bk env S = .val ⟨us, bk⟩ env S := rfl
theorem seq_scr {us : List Vl} {bk : List Pl} : seqV (.scr us) bk env S = .val ⟨us, bk⟩ env S := rfl
theorem seq_tx {cs : List Nat} {bk : List Pl} : seqV (.str (tx cs)) bk env S = .val ⟨cs.map fun c => .str (tx [c]), bk⟩ env S := rfl
theorem rev_lst {o : Ow} {us : List Vl} {bk : List Pl} : revV (.lst o us) bk env S = .val ⟨us.reverse, bk⟩ env S := rfl
theorem rev_tup {us : List Vl} {bk : List Pl} : revV (.tup us) bk env S = .val ⟨us.reverse, bk⟩ env S := rfl
theorem enum_lst {o : Ow} {us : List Vl} {bk : List Pl} : enumV (.lst o us) bk env S = .val ⟨us.zipIdx.map fun p => .tup [.int p.2, p.1], bk⟩ env S := rfl
theorem rng1_int {i : Int} (h : i < 4611686018427387904) (h0 : -4611686018427387904 < i) : rng1V (.int i) env S = .val ⟨(List.range i.toNat).map fun (k : Nat) => .int k, []⟩ env S := by
  unfold rng1V; simp only; rw [if_pos (by omega)]
theorem rrng1_int {i : Int} (h : i < 4611686018427387904) (h0 : -4611686018427387904 < i) : rrng1V (.int i) env S = .val ⟨((List.range i.toNat).map fun (k : Nat) => .int k).reverse, []⟩ env S := by
  unfold rrng1V; simp only; rw [if_pos (by omega)]
theorem rng2_int {i j : Int} (h : i.natAbs < 4611686018427387904) (h2 : j.natAbs < 4611686018427387904) : rng2V (.int i) (.int j) env S = .val ⟨(List.range (j - i).toNat).map fun (k : Nat) => .int (i + k), []⟩ env S := if_pos ⟨h, h2⟩
/-- a list that the frame does not own -/
theorem ln_ne {o : Ow} {us : List Vl} {p : Pl} {f : Vl → VE → OS → RV} (h : o ≠ .own) : lnV (some (.lst o us)) p env S f = f (.lst o us) env S := by
  cases o <;> first | rfl | exact absurd rfl h
theorem lq_ne {o : Ow} {us : List Vl} {p : Pl} {f : Vl → List Pl → VE → OS → RP SqP} (h : o ≠ .own) : lnQ (some (.lst o us)) p env S f = f (.lst o us) [] env S := by
  cases o <;> first | rfl | exact absurd rfl h
theorem kp_int {i : Int} {p : Pl} : kpV (some (.int i)) p env S = .val (.int i) env S := rfl
theorem mv_int {i : Int} {j : Nat} : mvV (some (.int i)) j env S = .val (.int i) env S := rfl
theorem ln_int {i : Int} {p : Pl} {f : Vl → VE → OS → RV} : lnV (some (.int i)) p env S f = f (.int i) env S := rfl
theorem lq_int {i : Int} {p : Pl} {f : Vl → List Pl → VE → OS → RP SqP} : lnQ (some (.int i)) p env S f = f (.int i) [] env S := rfl
theorem tk_int {i : Int} {p : Pl} {j : Nat} {f : Vl → VE → OS → RV} : tkV (some (.int i)) p j env S f = f (.int i) env S := rfl
theorem kp_str {i : Str} {p : Pl} : kpV (some (.str i)) p env S = .val (.str i) env S := rfl
theorem mv_str {i : Str} {j : Nat} : mvV (some (.str i)) j env S = .val (.str i) env S := rfl
theorem ln_str {i : Str} {p : Pl} {f : Vl → VE → OS → RV} : lnV (some (.str i)) p env S f = f (.str i) env S := rfl
theorem lq_str {i : Str} {p : Pl} {f : Vl → List Pl → VE → OS → RP SqP} : lnQ (some (.str i)) p env S f = f (.str i) [] env S := rfl
theorem tk_str {i : Str} {p : Pl} {j : Nat} {f : Vl → VE → OS → RV} : tkV (some (.str i)) p j env S f = f (.str i) env S := rfl
theorem kp_bl {i : Bool} {p : Pl} : kpV (some (.bl i)) p env S = .val (.bl i) env S := rfl
theorem mv_bl {i : Bool} {j : Nat} : mvV (some (.bl i)) j env S = .val (.bl i) env S := rfl
theorem ln_bl {i : Bool} {p : Pl} {f : Vl → VE → OS → RV} : lnV (some (.bl i)) p env S f = f (.bl i) env S := rfl
theorem lq_bl {i : Bool} {p : Pl} {f : Vl → List Pl → VE → OS → RP SqP} : lnQ (some (.bl i)) p env S f = f (.bl i) [] env S := rfl
theorem tk_bl {i : Bool} {p : Pl} {j : Nat} {f : Vl → VE → OS → RV} : tkV (some (.bl i)) p j env S f = f (.bl i) env S := rfl
theorem kp_non  {p : Pl} : kpV (some (.non)) p env S = .val (.non) env S := rfl
theorem mv_non  {j : Nat} : mvV (some (.non)) j env S = .val (.non) env S := rfl
theorem ln_non  {p : Pl} {f : Vl → VE → OS → RV} : lnV (some (.non)) p env S f = f (.non) env S := rfl
theorem lq_non  {p : Pl} {f : Vl → List Pl → VE → OS → RP SqP} : lnQ (some (.non)) p env S f = f (.non) [] env S := rfl
theorem tk_non  {p : Pl} {j : Nat} {f : Vl → VE → OS → RV} : tkV (some (.non)) p j env S f = f (.non) env S := rfl
theorem kp_tup {us : List Vl} {p : Pl} : kpV (some (.tup us)) p env S = .val (.tup us) env S := rfl
theorem mv_tup {us : List Vl} {j : Nat} : mvV (some (.tup us)) j env S = .val (.tup us) env S := rfl
theorem ln_tup {us : List Vl} {p : Pl} {f : Vl → VE → OS → RV} : lnV (some (.tup us)) p env S f = f (.tup us) env S := rfl
theorem lq_tup {us : List Vl} {p : Pl} {f : Vl → List Pl → VE → OS → RP SqP} : lnQ (some (.tup us)) p env S f = f (.tup us) [] env S := rfl
theorem tk_tup {us : List Vl} {p : Pl} {j : Nat} {f : Vl → VE → OS → RV} : tkV (some (.tup us)) p j env S f = f (.tup us) env S := rfl
theorem kp_obj {i : Nat} {p : Pl} : kpV (some (.obj i)) p env S = .val (.obj i) env S := rfl
theorem mv_obj {i : Nat} {j : Nat} : mvV (some (.obj i)) j env S = .val (.obj i) env S := rfl
theorem ln_obj {i : Nat} {p : Pl} {f : Vl → VE → OS → RV} : lnV (some (.obj i)) p env S f = f (.obj i) env S := rfl
theorem lq_obj {i : Nat} {p : Pl} {f : Vl → List Pl → VE → OS → RP SqP} : lnQ (some (.obj i)) p env S f = f (.obj i) [] env S := rfl
theorem tk_obj {i : Nat} {p : Pl} {j : Nat} {f : Vl → VE → OS → RV} : tkV (some (.obj i)) p j env S f = f (.obj i) env S := rfl
theorem kp_fn {i : Nat} {p : Pl} : kpV (some (.fn i)) p env S = .val (.fn i) env S := rfl
theorem mv_fn {i : Nat} {j : Nat} : mvV (some (.fn i)) j env S = .val (.fn i) env S := rfl
theorem ln_fn {i : Nat} {p : Pl} {f : Vl → VE → OS → RV} : lnV (some (.fn i)) p env S f = f (.fn i) env S := rfl
theorem lq_fn {i : Nat} {p : Pl} {f : Vl → List Pl → VE → OS → RP SqP} : lnQ (some (.fn i)) p env S f = f (.fn i) [] env S := rfl
theorem tk_fn {i : Nat} {p : Pl} {j : Nat} {f : Vl → VE → OS → RV} : tkV (some (.fn i)) p j env S f = f (.fn i) env S := rfl
theorem kp_no {us : List Vl} {p : Pl} : kpV (some (.lst .no us)) p env S = .val (.lst .no us) env S := rfl
theorem mv_no {us : List Vl} {j : Nat} : mvV (some (.lst .no us)) j env S = .val (.lst .no us) env S := rfl
theorem ln_no {us : List Vl} {p : Pl} {f : Vl → VE → OS → RV} : lnV (some (.lst .no us)) p env S f = f (.lst .no us) env S := rfl
theorem lq_no {us : List Vl} {p : Pl} {f : Vl → List Pl → VE → OS → RP SqP} : lnQ (some (.lst .no us)) p env S f = f (.lst .no us) [] env S := rfl
theorem tk_no {us : List Vl} {p : Pl} {j : Nat} {f : Vl → VE → OS → RV} : tkV (some (.lst .no us)) p j env S f = f (.lst .no us) env S := rfl
theorem kp_dno {us : List (Key × Vl)} {p : Pl} : kpV (some (.dct .no us)) p env S = .val (.dct .no us) env S := rfl
theorem mv_dno {us : List (Key × Vl)} {j : Nat} : mvV (some (.dct .no us)) j env S = .val (.dct .no us) env S := rfl
theorem ln_dno {us : List (Key × Vl)} {p : Pl} {f : Vl → VE → OS → RV} : lnV (some (.dct .no us)) p env S f = f (.dct .no us) env S := rfl
theorem lq_dno {us : List (Key × Vl)} {p : Pl} {f : Vl → List Pl → VE → OS → RP SqP} : lnQ (some (.dct .no us)) p env S f = f (.dct .no us) [] env S := rfl
theorem tk_dno {us : List (Key × Vl)} {p : Pl} {j : Nat} {f : Vl → VE → OS → RV} : tkV (some (.dct .no us)) p j env S f = f (.dct .no us) env S := rfl
theorem eAsg {i : Nat} {x : Vl} : kAsg i x env S = .nx (env.set i (some x)) S := rfl
theorem eRet {x : Vl} : kRet x env S = .rt x env S := rfl
theorem eExp {x : Vl} : kExp x env S = .nx env S := rfl
theorem eBin {o : Bop} {y : E} {u : Vl} : kBin P n k o y u env S = (xe P n k false y env S).bind (kBin2 o u) := rfl
theorem eBin2 {o : Bop} {u v : Vl} : kBin2 o u v env S = ofP env S (binP o u v) := rfl
theorem eCmp {o : Cop} {y : E} {u : Vl} : kCmp P n k o y u env S = (xe P n k false y env S).bind (kCmp2 o u) := rfl
theorem eCmp2 {o : Cop} {u v : Vl} : kCmp2 o u v env S = ofP env S ((cmpP o u v).map .bl) := rfl
theorem eCh {o p : Cop} {y z : E} {u : Vl} : kCh P n k o p y z u env S = (xe P n k (!quiet z) y env S).bind (kCh2 P n k o p z u) := rfl
theorem eCh2 {o p : Cop} {z : E} {u v : Vl} : kCh2 P n k o p z u v env S = chK P n k (cmpP o u v) p z v env S := rfl
theorem ch_t {p : Cop} {z : E} {v : Vl} : chK P n k (some true) p z v env S = (xe P n k false z env S).bind (kCmp2 p v) := rfl
theorem ch_f {p : Cop} {z : E} {v : Vl} : chK P n k (some false) p z v env S = .val (.bl false) env S := rfl
theorem eAnd {b : Bool} {y : E} {u : Vl} : kAnd P n k b y u env S = andK P n k (truP u) b y u env S := rfl
theorem and_t {b : Bool} {y : E} {u : Vl} : andK P n k (some true) b y u env S = xe P n k b y env S := rfl
theorem and_f {b : Bool} {y : E} {u : Vl} : andK P n k (some false) b y u env S = .val u env S := rfl
theorem eOr {b : Bool} {y : E} {u : Vl} : kOr P n k b y u env S = orK P n k (truP u) b y u env S := rfl
theorem or_t {b : Bool} {y : E} {u : Vl} : orK P n k (some true) b y u env S = .val u env S := rfl
theorem or_f {b : Bool} {y : E} {u : Vl} : orK P n k (some false) b y u env S = xe P n k b y env S := rfl
theorem eNot {u : Vl} : kNot u env S = ofP env S ((truP u).map fun t => .bl (!t)) := rfl
theorem eIfe {b : Bool} {x y : E} {u : Vl} : kIfe P n k b x y u env S = ifeK P n k (truP u) b x y env S := rfl
theorem ife_t {b : Bool} {x y : E} : ifeK P n k (some true) b x y env S = xe P n k b x env S := rfl
theorem ife_f {b : Bool} {x y : E} : ifeK P n k (some false) b x y env S = xe P n k b y env S := rfl
theorem eLst {us : List Vl} : kLst us env S = ofP env S (newP us) := rfl
theorem eIx {y : E} {u : Vl} : kIx P n k y u env S = (xe P n k false y env S).bind (kIx2 u) := rfl
theorem eIx2 {u v : Vl} : kIx2 u v env S = ofP env S (ixP u v) := rfl
theorem eCut {lo hi : Eo} {u : Vl} : kCut P n k lo hi u env S = (xo P n k lo env S).bind (kCut2 P n k hi u) := rfl
theorem eCut2 {hi : Eo} {u : Vl} {i : Option Int} : kCut2 P n k hi u i env S = (xo P n k hi env S).bind (kCut3 u i) := rfl
theorem eCut3 {u : Vl} {i j : Option Int} : kCut3 u i j env S = ofP env S (cutP u i j) := rfl
theorem eBi {f : Bi} {us : List Vl} : kBi f us env S = ofP env S (biP f us) := rfl
theorem eTru {x : Vl} : kTru x env S = ofP env S (truP x) := rfl
theorem eUs {u : Vl} {us : List Vl} : kUs u us env S = .val (u :: us) env S := rfl
theorem eUsT {r : Es} {u : Vl} : kUsT P n k r u env S = (xl P n k true r env S).bind (kUs (frz u)) := rfl
theorem eUsF {r : Es} {u : Vl} : kUsF P n k r u env S = (xl P n k false r env S).bind (kUs u) := rfl
theorem eXa {lf : List Vl → OS → RC} {md : List Md} {r : Es} {args : List Vl} {u : Vl} : kXa P n k lf md r args u env S = xa P n k lf md r (args ++ [u]) env S := rfl
theorem eCall {es : Es} {f : Nat} : kCall P n k es env S f = (xa P n k (callP P n k f) (mdOf P f) es [] env S).dn := rfl
theorem eMeth {es : Es} {f i : Nat} : kMeth P n k es env S f i = (xa P n k (lfM (callP P n k) f i) (mdOf P f).tail es [] env S).dn := rfl
theorem eMk {c : Nat} {es : Es} {f : Nat} : kMk P n k c es env S f = (xa P n k (lfK (callP P n k) f c) (mdOf P f).tail es [] env S).dn := rfl
theorem eBm {f : Bm} {es : Es} {x : Vl} : kBm P n k f es x env S = tyK P n k (tyP f x) f es x env S := rfl
theorem ty_t {f : Bm} {es : Es} {x : Vl} : tyK P n k true f es x env S = (xl P n k false es env S).bind (kBm2 f x) := rfl
theorem eBm2 {f : Bm} {x : Vl} {us : List Vl} : kBm2 f x us env S = ofP env S (bmP f x us) := rfl
theorem eSetf {o : E} {f : Nat} {u : Vl} : kSetf P n k o f u env S = (xe P n k false o env S).out (setfV P f u) := rfl
theorem eAug {i : Nat} {o : Bop} {e : E} {a : Int} : kAug P n k i o e env S a = (xe P n k false e env S).out (augV i o a) := rfl
theorem eMut {b : Bm} {p : Pl} {ws : List Vl} : kMut b p ws env S = mutAt b p ws env S := rfl
theorem eBack {a : α} {u : Unit} : kBack a u env S = .val a env S := rfl
theorem eBackX {c : Nat} {u : Unit} : (kBackX c u env S : RP α) = .exc c env S := rfl
theorem eTry {f : List Nat → Nat → VE → OS → OP} {x : Nat} {as : List Nat} : kTry f x env S as = f as x env S := rfl
theorem eSeq {f : Vl → List Pl → VE → OS → RP SqP} {x : Vl} : kSeq f x env S = f x [] env S := rfl
/-! giving back -/
def unV (o : Option Vl) (p : Pl) (env : VE) (S : OS) : RP Unit := match o with
  | some (.lst .lent us) => .val () (putE env p (.lst .own us)) (putS S p (.lst .own us))
  | some (.dct .lent us) => .val () (putE env p (.dct .own us)) (putS S p (.dct .own us))
  | _ => .stuck
theorem un_v {i : Nat} : unlend (.var i) env S = unV env[i]?.join (.var i) env S := rfl
theorem un_f {o f : Nat} : unlend (.fld o f) env S = unV (getF S o f) (.fld o f) env S := rfl
theorem unV_l {us : List Vl} {p : Pl} : unV (some (.lst .lent us)) p env S = .val () (putE env p (.lst .own us)) (putS S p (.lst .own us)) := rfl
theorem unV_d {us : List (Key × Vl)} {p : Pl} : unV (some (.dct .lent us)) p env S = .val () (putE env p (.dct .own us)) (putS S p (.dct .own us)) := rfl
def giV (o : Option Vl) (p : Pl) (v : Vl) (env : VE) (S : OS) : RP Unit := match o with
  | some .tkn => match kd v with
    | .bad => .stuck
    | _ => .val () (putE env p v) (putS S p v)
  | _ => .stuck
theorem give_v {i : Nat} {v : Vl} : giveP (.var i) v env S = giV env[i]?.join (.var i) v env S := rfl
theorem give_f {o f : Nat} {v : Vl} : giveP (.fld o f) v env S = giV (getF S o f) (.fld o f) v env S := rfl
theorem gi_own {us : List Vl} {p : Pl} : giV (some .tkn) p (.lst .own us) env S = .val () (putE env p (.lst .own us)) (putS S p (.lst .own us)) := rfl
def mu2 (o : Option (Vl × List Vl)) (p : Pl) (env : VE) (S : OS) : RP Vl := match o with
  | some (r, ws1) => .val r (putE env p (.lst .own ws1)) (putS S p (.lst .own ws1))
  | none => .stuck
def mu3 (o : Option (Vl × List (Key × Vl))) (p : Pl) (env : VE) (S : OS) : RP Vl := match o with
  | some (r, ws1) => .val r (putE env p (.dct .own ws1)) (putS S p (.dct .own ws1))
  | none => .stuck
def muV (o : Option Vl) (p : Pl) (b : Bm) (us : List Vl) (env : VE) (S : OS) : RP Vl := match o with
  | some (.lst .own ws) => mu2 (bmM b ws us) p env S
  | some (.dct .own ws) => mu3 (bdM b ws us) p env S
  | _ => .stuck
theorem mutAt_eq {p : Pl} {b : Bm} {us : List Vl} : mutAt b p us env S = muV (getP env S p) p b us env S := by
  unfold mutAt muV
  cases getP env S p with
  | none => rfl
  | some v =>
    cases v with
    | lst o ws => cases o <;> rfl
    | dct o ws => cases o <;> rfl
    | _ => rfl
theorem mutAt_v {i : Nat} {b : Bm} {us : List Vl} : mutAt b (.var i) us env S = muV env[i]?.join (.var i) b us env S := mutAt_eq
theorem mutAt_f {o f : Nat} {b : Bm} {us : List Vl} : mutAt b (.fld o f) us env S = muV (getF S o f) (.fld o f) b us env S := mutAt_eq
theorem mu_own {p : Pl} {b : Bm} {us ws : List Vl} : muV (some (.lst .own ws)) p b us env S = mu2 (bmM b ws us) p env S := rfl
theorem mu_ownD {p : Pl} {b : Bm} {us : List Vl} {ws : List (Key × Vl)} : muV (some (.dct .own ws)) p b us env S = mu3 (bdM b ws us) p env S := rfl
theorem mu_some {r : Vl} {ws1 : List Vl} {p : Pl} : mu2 (some (r, ws1)) p env S = .val r (putE env p (.lst .own ws1)) (putS S p (.lst .own ws1)) := rfl
theorem mu_someD {r : Vl} {ws1 : List (Key × Vl)} {p : Pl} : mu3 (some (r, ws1)) p env S = .val r (putE env p (.dct .own ws1)) (putS S p (.dct .own ws1)) := rfl
theorem putE_v {i : Nat} {v : Vl} : putE env (.var i) v = env.set i (some v) := rfl
theorem putE_f {o f : Nat} {v : Vl} : putE env (.fld o f) v = env := rfl
theorem putS_v {i : Nat} {v : Vl} : putS S (.var i) v = S := rfl
theorem putS_f {o f : Nat} {v : Vl} : putS S (.fld o f) v = setF S o f v := rfl
theorem valE_var {i : Nat} : valE env S (.var i) = env[i]?.join := rfl
def fldO (o : Option Vl) (S : OS) (f : Nat) : Option Vl := match o with
  | some (.obj n) => getF S n f
  | _ => none
theorem valE_fld {e : E} {f : Nat} : valE env S (.fld e f) = fldO (valE env S e) S f := rfl
theorem fldO_obj {n f : Nat} : fldO (some (.obj n)) S f = getF S n f := rfl
def plO (o : Option Vl) (f : Nat) : Option Pl := match o with
  | some (.obj n) => some (.fld n f)
  | _ => none
theorem plc_fld {e : E} {f : Nat} : plc env S (.fld e f) = plO (valE env S e) f := rfl
theorem plO_obj {n f : Nat} : plO (some (.obj n)) f = some (.fld n f) := rfl
/-! xs of an item -/
def setiV (o : Option Vl) (p : Pl) (i u : Vl) (env : VE) (S : OS) : OP := match o with
  | some (.lst .own us) => match setiP us i (frz u) with
    | some us1 => .nx (putE env p (.lst .own us1)) (putS S p (.lst .own us1))
    | none => .stuck
  | some (.dct .own kvs) => match keyP i with
    | some k => if kvs.length < LINE then .nx (putE env p (.dct .own (putKV k (frz u) kvs))) (putS S p (.dct .own (putKV k (frz u) kvs))) else .stuck
    | none => .stuck
  | _ => .stuck
theorem setAt_eq {p : Pl} {i u : Vl} : setAt p i u env S = setiV (getP env S p) p i u env S := by
  unfold setAt setiV
  cases getP env S p with
  | none => rfl
  | some v =>
    cases v with
    | lst o ws => cases o <;> rfl
    | dct o ws => cases o <;> rfl
    | _ => rfl
def delV (o : Option Vl) (p : Pl) (i : Vl) (env : VE) (S : OS) : OP := match o with
  | some (.dct .own kvs) => match keyP i with
    | some k => if (getK k kvs).isSome = true then .nx (putE env p (.dct .own (dropKV k kvs))) (putS S p (.dct .own (dropKV k kvs))) else .stuck
    | none => .stuck
  | _ => .stuck
theorem delAt_eq {p : Pl} {i : Vl} : delAt p i env S = delV (getP env S p) p i env S := by
  unfold delAt delV
  cases getP env S p with
  | none => rfl
  | some v =>
    cases v with
    | dct o ws => cases o <;> rfl
    | _ => rfl
def plcO (o : Option Pl) (k : Pl → OP) : OP := match o with
  | some p => k p
  | none => .stuck
theorem plcO_some {p : Pl} {k : Pl → OP} : plcO (some p) k = k p := rfl
def ownO (o : Option Vl) (k : OP) : OP := if ownB o = true then k else .stuck
theorem ownO_own {us : List Vl} {k : OP} : ownO (some (.lst .own us)) k = k := rfl
theorem ownO_ownD {us : List (Key × Vl)} {k : OP} : ownO (some (.dct .own us)) k = k := rfl
def kSeti2 (p : Pl) (u j : Vl) (env : VE) (S : OS) : OP := setAt p j u env S
def kSeti1 (P : Pg) (n k : Nat) (x : E) (u : Vl) (env : VE) (S : OS) (p : Pl) : OP := ownO (getP env S p) ((xe P n k false x env S).out (kSeti2 p u))
def kSeti (P : Pg) (n k : Nat) (o x : E) (u : Vl) (env : VE) (S : OS) : OP := plcO (plc env S o) (kSeti1 P n k x u env S)
theorem xs_seti {o x e : E} (hq : (quiet o && quiet x) = true) : xs P n k (.seti o x e) env S = (xe P n k true e env S).out (kSeti P n k o x) := by
  unfold xs; rw [exP, if_pos hq]
  show (evP P (callP P n k) true e env S).out _ = (evP P (callP P n k) true e env S).out _
  congr 1
theorem eSeti {o x : E} {u : Vl} : kSeti P n k o x u env S = plcO (plc env S o) (kSeti1 P n k x u env S) := rfl
theorem eSeti1 {x : E} {u : Vl} {p : Pl} : kSeti1 P n k x u env S p = ownO (getP env S p) ((xe P n k false x env S).out (kSeti2 p u)) := rfl
theorem eSeti2 {p : Pl} {j u : Vl} : kSeti2 p u j env S = setiV (getP env S p) p j u env S := setAt_eq
def kDel2 (p : Pl) (j : Vl) (env : VE) (S : OS) : OP := delAt p j env S
def kDel1 (P : Pg) (n k : Nat) (x : E) (env : VE) (S : OS) (p : Pl) : OP := ownO (getP env S p) ((xe P n k false x env S).out (kDel2 p))
theorem xs_del {o x : E} (hq : (quiet o && quiet x) = true) : xs P n k (.del o x) env S = plcO (plc env S o) (kDel1 P n k x env S) := by
  unfold xs; rw [exP, if_pos hq]
  cases plc env S o <;> rfl
theorem eDel1 {x : E} {p : Pl} : kDel1 P n k x env S p = ownO (getP env S p) ((xe P n k false x env S).out (kDel2 p)) := rfl
theorem eDel2 {p : Pl} {j : Vl} : kDel2 p j env S = delV (getP env S p) p j env S := delAt_eq
theorem plc_var {i : Nat} : plc env S (.var i) = some (.var i) := rfl
theorem getP_v {i : Nat} : getP env S (.var i) = env[i]?.join := rfl
theorem getP_f {o f : Nat} : getP env S (.fld o f) = getF S o f := rfl
theorem setiV_own {us : List Vl} {p : Pl} {i : Int} {u : Vl} (h0 : 0 ≤ i) (h1 : i < us.length) : setiV (some (.lst .own us)) p (.int i) u env S = .nx (putE env p (.lst .own (us.set i.toNat (frz u)))) (putS S p (.lst .own (us.set i.toNat (frz u)))) := by
  unfold setiV setiP
  simp only [h0, h1, if_true]
theorem setiV_di {kvs : List (Key × Vl)} {p : Pl} {i : Int} {u : Vl} (h : kvs.length < 16777216) : setiV (some (.dct .own kvs)) p (.int i) u env S = .nx (putE env p (.dct .own (putKV (.i i) (frz u) kvs))) (putS S p (.dct .own (putKV (.i i) (frz u) kvs))) := if_pos h
theorem setiV_ds {kvs : List (Key × Vl)} {p : Pl} {i : Str} {u : Vl} (h : kvs.length < 16777216) : setiV (some (.dct .own kvs)) p (.str i) u env S = .nx (putE env p (.dct .own (putKV (.s i) (frz u) kvs))) (putS S p (.dct .own (putKV (.s i) (frz u) kvs))) := if_pos h
theorem delV_i {kvs : List (Key × Vl)} {p : Pl} {i : Int} (h : (getK (.i i) kvs).isSome = true) : delV (some (.dct .own kvs)) p (.int i) env S = .nx (putE env p (.dct .own (dropKV (.i i) kvs))) (putS S p (.dct .own (dropKV (.i i) kvs))) := if_pos h
theorem delV_s {kvs : List (Key × Vl)} {p : Pl} {i : Str} (h : (getK (.s i) kvs).isSome = true) : delV (some (.dct .own kvs)) p (.str i) env S = .nx (putE env p (.dct .own (dropKV (.s i) kvs))) (putS S p (.dct .own (dropKV (.s i) kvs))) := if_pos h
theorem xs_kill {ks : List Nat} : xs P n k (.kill ks) env S = .nx (wipeP env ks) S := rfl
/-! dicts -/
theorem ixP_di {o : Ow} {kvs : List (Key × Vl)} {i : Int} : ixP (.dct o kvs) (.int i) = getK (.i i) kvs := rfl
theorem ixP_ds {o : Ow} {kvs : List (Key × Vl)} {i : Str} : ixP (.dct o kvs) (.str i) = getK (.s i) kvs := rfl
theorem memP_di {o : Ow} {kvs : List (Key × Vl)} {i : Int} : memP (.int i) (.dct o kvs) = some (getK (.i i) kvs).isSome := rfl
theorem memP_ds {o : Ow} {kvs : List (Key × Vl)} {i : Str} : memP (.str i) (.dct o kvs) = some (getK (.s i) kvs).isSome := rfl
theorem bmP_get_i {o : Ow} {kvs : List (Key × Vl)} {i : Int} : bmP .get (.dct o kvs) [.int i] = some ((getK (.i i) kvs).getD .non) := rfl
theorem bmP_get_s {o : Ow} {kvs : List (Key × Vl)} {i : Str} : bmP .get (.dct o kvs) [.str i] = some ((getK (.s i) kvs).getD .non) := rfl
theorem bmP_get2_i {o : Ow} {kvs : List (Key × Vl)} {i : Int} {z : Vl} (h : flP z = true) : bmP .get2 (.dct o kvs) [.int i, z] = some ((getK (.i i) kvs).getD z) := if_pos h
theorem bmP_get2_s {o : Ow} {kvs : List (Key × Vl)} {i : Str} {z : Vl} (h : flP z = true) : bmP .get2 (.dct o kvs) [.str i, z] = some ((getK (.s i) kvs).getD z) := if_pos h
theorem bdM_pop_i {kvs : List (Key × Vl)} {i : Int} : bdM .dpop kvs [.int i] = (getK (.i i) kvs).map fun u => (u, dropKV (.i i) kvs) := rfl
theorem bdM_pop_s {kvs : List (Key × Vl)} {i : Str} : bdM .dpop kvs [.str i] = (getK (.s i) kvs).map fun u => (u, dropKV (.s i) kvs) := rfl
/-! the start -/
theorem callX {f : Nat} {fn : Fn} {us : List Vl} (h : P.fns[f]? = some fn) (hl : us.length = fn.np) : callQ P n (k + 1) f us S = finQ (xb P n k fn.body (us.map some ++ List.replicate (fn.nl - fn.np) none) S) := callQ_succ h hl
theorem callZ {f : Nat} {fn : Fn} {us : List Vl} (h : P.fns[f]? = some fn) (hl : us.length = fn.np) : callP P n (k + 1) f us S = finP fn.np (xb P n k fn.body (us.map some ++ List.replicate (fn.nl - fn.np) none) S) := callP_succ h hl
theorem finZ_rt {m : Nat} {u : Vl} : finP m (.rt u env S) = .val u (env.take m) S := rfl
theorem finZ_nx {m : Nat} : finP m (.nx env S) = .val .non (env.take m) S := rfl
theorem tk_ownD {us : List (Key × Vl)} {p : Pl} {j : Nat} {f : Vl → VE → OS → RV} : tkV (some (.dct .own us)) p j env S f = (f (.dct .own us) (putE env p .tkn) (putS S p .tkn)).gv p j := rfl
theorem gi_ownD {us : List (Key × Vl)} {p : Pl} : giV (some .tkn) p (.dct .own us) env S = .val () (putE env p (.dct .own us)) (putS S p (.dct .own us)) := rfl
/-! a field counted up -/
def augW2 (P : Pg) (o : Option Vl) (m f : Nat) (b : Int) (env : VE) (S : OS) : OP := match o with
  | some (.int a) => nxV (setfP P.flds S m f (.int (a + b))) env
  | _ => .stuck
def augW (P : Pg) (o : Option Vl) (f : Nat) (b : Int) (env : VE) (S : OS) : OP := match o with
  | some (.obj m) => augW2 P (getF S m f) m f b env S
  | _ => .stuck
theorem augW_obj {m f : Nat} {b : Int} : augW P (some (.obj m)) f b env S = augW2 P (getF S m f) m f b env S := rfl
theorem augW2_int {m f : Nat} {a b : Int} : augW2 P (some (.int a)) m f b env S = nxV (setfP P.flds S m f (.int (a + b))) env := rfl
theorem xs_augfI {i f : Nat} {b : Int} : xs P n k (.augf (.var i) f .add (.int b)) env S = augW P env[i]?.join f b env S := by
  unfold xs; rw [exP, if_pos (show quiet (E.int b) = true from rfl), evP]
  show (rdV env[i]?.join env S).out _ = _
  cases h : env[i]?.join with
  | none => rfl
  | some v =>
    cases v with
    | obj m =>
      show (match getF S m f with
        | some (.int a) => _
        | _ => _) = augW2 P (getF S m f) m f b env S
      cases hf : getF S m f with
      | none => rfl
      | some w =>
        cases w with
        | int a =>
          show (evP P (callP P n k) false (.int b) env S).out _ = _
          rw [evP]
          show (if clsP S m = clsP S m then _ else _) = _
          rw [if_pos rfl]
          show (match setfP P.flds S m f (.int (a + b)) with
            | some S1 => _
            | none => _) = nxV _ env
          cases setfP P.flds S m f (.int (a + b)) <;> rfl
        | _ => rfl
    | _ => rfl
/-! while, by a count of its rounds -/
theorem loopW_n {c : VE → OS → RP Bool} {b : VE → OS → OP} (R : Nat → VE → OS → Prop) (m : Nat) (Post : VE → OS → Prop) (go : ∀ j env S, j < m → R j env S → ∃ env1 S1 e S2, c env S = .val true env1 S1 ∧ (b env1 S1 = .nx e S2 ∨ b env1 S1 = .ct e S2) ∧ R (j + 1) e S2)
    (stop : ∀ env S, R m env S → ∃ env1 S1, c env S = .val false env1 S1 ∧ Post env1 S1) : ∀ (n j : Nat) (env : VE) (S : OS), j ≤ m → m - j < n → R j env S → ∃ e S2, loopWP c b n env S = .nx e S2 ∧ Post e S2
  | 0, j, env, S, h1, h2, _ => by omega
  | n + 1, j, env, S, h1, h2, r => by
    unfold loopWP
    by_cases h : j = m
    · subst h
      obtain ⟨env1, S1, e1, p⟩ := stop env S r
      exact ⟨env1, S1, by rw [e1]; rfl, p⟩
    · obtain ⟨env1, S1, e, S2, e1, e2, r2⟩ := go j env S (by omega) r
      obtain ⟨e', S', e3, p⟩ := loopW_n R m Post go stop n (j + 1) e S2 (by omega) (by omega) r2
      refine ⟨e', S', ?_, p⟩
      rw [e1]
      show (match b env1 S1 with
        | .nx e S2 => loopWP c b n e S2
        | .ct e S2 => loopWP c b n e S2
        | .bk e S2 => .nx e S2
        | o => o) = _
      rcases e2 with e2 | e2 <;> rw [e2] <;> exact e3
theorem loopW_nx {c : VE → OS → RP Bool} {b : VE → OS → OP} {n : Nat} {env env1 e : VE} {S S1 S2 : OS} (h1 : c env S = .val true env1 S1) (h2 : b env1 S1 = .nx e S2) : loopWP c b (n + 1) env S = loopWP c b n e S2 := by
  rw [loopWP, h1]
  show (match b env1 S1 with
    | .nx e S2 => loopWP c b n e S2
    | .ct e S2 => loopWP c b n e S2
    | .bk e S2 => .nx e S2
    | o => o) = _
  rw [h2]
theorem loopW_rt {c : VE → OS → RP Bool} {b : VE → OS → OP} {n : Nat} {env env1 e : VE} {S S1 S2 : OS} {v : Vl} (h1 : c env S = .val true env1 S1) (h2 : b env1 S1 = .rt v e S2) : loopWP c b (n + 1) env S = .rt v e S2 := by
  rw [loopWP, h1]
  show (match b env1 S1 with
    | .nx e S2 => loopWP c b n e S2
    | .ct e S2 => loopWP c b n e S2
    | .bk e S2 => .nx e S2
    | o => o) = _
  rw [h2]
theorem loopW_f {c : VE → OS → RP Bool} {b : VE → OS → OP} {n : Nat} {env env1 : VE} {S S1 : OS} (h1 : c env S = .val false env1 S1) : loopWP c b (n + 1) env S = .nx env1 S1 := by
  rw [loopWP, h1]; rfl
/-! texts cut, compared -/
theorem cutP_tx {cs : List Nat} {a b : Int} (h : cs.length ≤ 16777216) (ha : 0 ≤ a) (hb : 0 ≤ b) : cutP (.str (tx cs)) (some a) (some b) = some (.str (tx ((cs.drop a.toNat).take (b.toNat - a.toNat)))) := by
  unfold cutP
  simp only [tx_len]
  rw [if_pos h, tx_list, cut_int _ _ _ ha hb]
  rfl
theorem tx_inj {a b : List Nat} : (tx a = tx b) = (a = b) := by
  apply propext
  constructor
  · intro h
    have := congrArg (fun x : Str => x.cps.toList) h
    simpa using this
  · rintro rfl; rfl
theorem eqP_tx {a b : List Nat} : eqP (.str (tx a)) (.str (tx b)) = some (decide (a = b)) := by
  show some (decide (tx a = tx b)) = _
  congr 1
  rw [Bool.eq_iff_iff, decide_eq_true_eq, decide_eq_true_eq, tx_inj]
theorem set_here (S : OS) (r : Nat) (x : Nat × List (Nat × Vl)) (h : r < S.length) : (S.set r x)[r]? = some x := by simp [h]
theorem set_other (S : OS) (r i : Nat) (x : Nat × List (Nat × Vl)) (h : i ≠ r) : (S.set r x)[i]? = S[i]? := List.getElem?_set_ne (fun e => h e.symm)
theorem dT {p : Prop} [Decidable p] (h : p) : decide p = true := decide_eq_true h
theorem dF {p : Prop} [Decidable p] (h : ¬ p) : decide p = false := decide_eq_false h
theorem ofS_ne {a b : String} (h : (PySem.Str.ofString a == PySem.Str.ofString b) = false) : (PySem.Str.ofString a = PySem.Str.ofString b) = False := eq_false (by simpa using h)
theorem g0 {α : Type} {a : α} {l : List α} : (a :: l)[0]? = some a := rfl
theorem gS {α : Type} {a : α} {l : List α} {i : Nat} : (a :: l)[i + 1]? = l[i]? := rfl
theorem s0 {α : Type} {a b : α} {l : List α} : (a :: l).set 0 b = b :: l := rfl
theorem sS {α : Type} {a b : α} {l : List α} {i : Nat} : (a :: l).set (i + 1) b = a :: l.set i b := rfl
theorem jn {α : Type} {o : Option α} : (some o).join = o := by cases o <;> rfl
theorem q_cmp {o : Cop} {a b : E} : quiet (.cmp o a b) = (quiet a && quiet b) := rfl
theorem mulI {i j : Int} (h : j.natAbs < 18446744073709551616) : binP .mul (.int i) (.int j) = some (.int (i * j)) := if_pos (.inr h)
theorem mulI' {i j : Int} (h : i.natAbs < 18446744073709551616) : binP .mul (.int i) (.int j) = some (.int (i * j)) := if_pos (.inl h)
theorem fdivI {i j : Int} (h : 0 < j) (h2 : j < 18446744073709551616) : binP .fdiv (.int i) (.int j) = some (.int (i / j)) := if_pos ⟨h, h2⟩
theorem modI {i j : Int} (h : 0 < j) : binP .mod (.int i) (.int j) = some (.int (i % j)) := if_pos h
theorem xe_compM (ι : α → Vl) {b : Bool} {own : List Nat} {t : Tg} {it : It} {e : E} {env0 : VE} {items : List α} {bk : List Pl} (hq : xi P n k it env S = .val ⟨items.map ι, bk⟩ env0 S) (hf : freeOf env0 t own = true) (hi : ∀ i ∈ own, i < env0.length) (g : α → Vl) (hl : items.length ≤ 16777216)
    (h : ∀ a ∈ items, ∃ env1, bindP t (ι a) (wipeP env0 own) = some env1 ∧ ∃ env3, xe P n k true e env1 S = .val (g a) env3 S ∧ wipeP env3 own = wipeP env0 own) :
    xe P n k b (.comp own t it .none e) env S = (unlends bk env0 S).bind fun _ env S => .val (.lst .own (items.map fun a => frz (g a))) env S := evP_compM ι hq hf hi g hl h
theorem xe_compF (ι : α → Vl) {b : Bool} {own : List Nat} {t : Tg} {it : It} {c : Eo} {e : E} {env0 : VE} {items : List α} {bk : List Pl} (hq : xi P n k it env S = .val ⟨items.map ι, bk⟩ env0 S) (hf : freeOf env0 t own = true) (hi : ∀ i ∈ own, i < env0.length) (f : α → Bool) (g : α → Vl) (hl : items.length ≤ 16777216)
    (h : ∀ a ∈ items, ∃ env1, bindP t (ι a) (wipeP env0 own) = some env1 ∧ ∃ env2, xc P n k c env1 S = .val (f a) env2 S ∧ (f a = false → wipeP env2 own = wipeP env0 own) ∧ (f a = true → ∃ env3, xe P n k true e env2 S = .val (g a) env3 S ∧ wipeP env3 own = wipeP env0 own)) :
    xe P n k b (.comp own t it c e) env S = (unlends bk env0 S).bind fun _ env S => .val (.lst .own ((items.filter f).map fun a => frz (g a))) env S := evP_compF ι hq hf hi f g hl h
/-- a comprehension whose walk lends a field -/
theorem xe_compFs (ι : α → Vl) (S0 : OS) {b : Bool} {own : List Nat} {t : Tg} {it : It} {c : Eo} {e : E} {env0 : VE} {items : List α} {bk : List Pl} (hq : xi P n k it env S = .val ⟨items.map ι, bk⟩ env0 S0) (hf : freeOf env0 t own = true) (hi : ∀ i ∈ own, i < env0.length) (f : α → Bool) (g : α → Vl) (hl : items.length ≤ 16777216)
    (h : ∀ a ∈ items, ∃ env1, bindP t (ι a) (wipeP env0 own) = some env1 ∧ ∃ env2, xc P n k c env1 S0 = .val (f a) env2 S0 ∧ (f a = false → wipeP env2 own = wipeP env0 own) ∧ (f a = true → ∃ env3, xe P n k true e env2 S0 = .val (g a) env3 S0 ∧ wipeP env3 own = wipeP env0 own)) :
    xe P n k b (.comp own t it c e) env S = (unlends bk env0 S0).bind fun _ env S => .val (.lst .own ((items.filter f).map fun a => frz (g a))) env S := by
  show evP P (callP P n k) b (.comp own t it c e) env S = _
  have hq2 : eviP P (callP P n k) it env S = .val ⟨items.map ι, bk⟩ env0 S0 := hq
  have h2 : ∀ a ∈ items, ∃ env1, bindP t (ι a) (wipeP env0 own) = some env1 ∧ ∃ env2, evcP' P (callP P n k) c env1 S0 = .val (f a) env2 S0 ∧ (f a = false → wipeP env2 own = wipeP env0 own) ∧ (f a = true → ∃ env3, evP P (callP P n k) true e env2 S0 = .val (g a) env3 S0 ∧ wipeP env3 own = wipeP env0 own) := h
  obtain ⟨env', e1, e2⟩ := loopCP_pure ι (wipeP env0 own) f g items [] env0 (by simpa using hl) rfl h2
  rw [evP, hq2, rp_bind_val]
  simp only [hf, if_true, e1, noXP_val, rp_bind_val, backP_self e2 hi, List.nil_append]
theorem xe_compMs (ι : α → Vl) (S0 : OS) {b : Bool} {own : List Nat} {t : Tg} {it : It} {e : E} {env0 : VE} {items : List α} {bk : List Pl} (hq : xi P n k it env S = .val ⟨items.map ι, bk⟩ env0 S0) (hf : freeOf env0 t own = true) (hi : ∀ i ∈ own, i < env0.length) (g : α → Vl) (hl : items.length ≤ 16777216)
    (h : ∀ a ∈ items, ∃ env1, bindP t (ι a) (wipeP env0 own) = some env1 ∧ ∃ env3, xe P n k true e env1 S0 = .val (g a) env3 S0 ∧ wipeP env3 own = wipeP env0 own) :
    xe P n k b (.comp own t it .none e) env S = (unlends bk env0 S0).bind fun _ env S => .val (.lst .own (items.map fun a => frz (g a))) env S := by
  rw [xe_compFs ι S0 hq hf hi (fun _ => true) g hl (fun a ha => by
    obtain ⟨env1, h1, env3, h2, h3⟩ := h a ha
    exact ⟨env1, h1, env1, rfl, (fun h => by cases h), fun _ => ⟨env3, h2, h3⟩⟩), List.filter_eq_self.mpr (fun _ _ => rfl)]
/-- a for over a range that hands back at the first place of a kind -/
theorem loopFP_rt {t : Tg} {b : VE → OS → OP} (ι : Nat → Vl) (f : Nat → VE) (stop : Nat → Option Vl) : ∀ (m i : Nat), (∀ j, i ≤ j → j < i + m → ∃ env1, bindP t (ι j) (f j) = some env1 ∧ ((stop j = none ∧ b env1 S = .nx (f (j + 1)) S) ∨ ∃ v e, stop j = some v ∧ b env1 S = .rt v e S)) →
    ((∀ j, i ≤ j → j < i + m → stop j = none) ∧ loopFP t b ((List.range' i m).map ι) (f i) S = .nx (f (i + m)) S) ∨ ∃ j v e, i ≤ j ∧ j < i + m ∧ (∀ j', i ≤ j' → j' < j → stop j' = none) ∧ stop j = some v ∧ loopFP t b ((List.range' i m).map ι) (f i) S = .rt v e S
  | 0, i, _ => .inl ⟨fun _ _ _ => by omega, rfl⟩
  | m + 1, i, h => by
    obtain ⟨env1, h1, h2⟩ := h i (Nat.le_refl _) (by omega)
    rw [List.range'_succ, List.map_cons, loopFP_cons, h1]
    have go : ∀ o, b env1 S = o → (some env1).elim .stuck (fun env1 => (b env1 S).go (loopFP t b ((List.range' (i + 1) m).map ι))) = o.go (loopFP t b ((List.range' (i + 1) m).map ι)) := fun o e => by rw [← e]; rfl
    rcases h2 with ⟨h2, h3⟩ | ⟨v, e, h2, h3⟩
    · rw [go _ h3]
      rcases loopFP_rt ι f stop m (i + 1) fun j hj hj2 => h j (by omega) (by omega) with ⟨h4, h5⟩ | ⟨j, v, e, h4, h5, h6, h7, h8⟩
      · refine .inl ⟨fun j a b => ?_, by rw [show i + (m + 1) = i + 1 + m by omega]; exact h5⟩
        by_cases hj : j = i
        · rw [hj]; exact h2
        · exact h4 j (by omega) (by omega)
      · refine .inr ⟨j, v, e, by omega, by omega, fun j' a b => ?_, h7, h8⟩
        by_cases hj : j' = i
        · rw [hj]; exact h2
        · exact h6 j' (by omega) b
    · rw [go _ h3]
      exact .inr ⟨i, v, e, Nat.le_refl _, by omega, fun _ _ _ => by omega, h2, rfl⟩
/-- how far a run goes -/
theorem tw_len {p : α → Bool} (d : α) : ∀ (l : List α) (j : Nat), j ≤ l.length → (∀ i, i < j → p (l.getD i d) = true) → (j < l.length → p (l.getD j d) = false) → (l.takeWhile p).length = j
  | [], j, h, _, _ => by
    have : j = 0 := by simpa using h
    rw [this]; rfl
  | a :: l, 0, _, _, h => by
    have := h (by simp)
    rw [List.takeWhile_cons_of_neg (by simpa using this)]; rfl
  | a :: l, j + 1, h, h2, h3 => by
    have h0 := h2 0 (by omega)
    rw [List.takeWhile_cons_of_pos (by simpa using h0), List.length_cons]
    congr 1
    exact tw_len d l j (by simpa using h) (fun i hi => by simpa using h2 (i + 1) (by omega)) (fun hj => by simpa using h3 (by simpa using hj))
theorem tw_lt {p : α → Bool} (d : α) : ∀ (l : List α) (i : Nat), i < (l.takeWhile p).length → p (l.getD i d) = true
  | [], i, h => by simp at h
  | a :: l, i, h => by
    cases hp : p a with
    | false => rw [List.takeWhile_cons_of_neg (by simp [hp])] at h; simp at h
    | true =>
      rw [List.takeWhile_cons_of_pos hp] at h
      cases i with
      | zero => simpa using hp
      | succ i => simpa using tw_lt d l i (by simpa using h)
theorem tw_le {p : α → Bool} : ∀ (l : List α), (l.takeWhile p).length ≤ l.length
  | [] => by simp
  | a :: l => by
    cases hp : p a with
    | false => rw [List.takeWhile_cons_of_neg (by simp [hp])]; simp
    | true => rw [List.takeWhile_cons_of_pos hp]; simpa using tw_le l
theorem tw_at {p : α → Bool} (d : α) : ∀ (l : List α), (l.takeWhile p).length < l.length → p (l.getD (l.takeWhile p).length d) = false
  | [], h => by simp at h
  | a :: l, h => by
    cases hp : p a with
    | false => rw [List.takeWhile_cons_of_neg (by simp [hp])]; simpa using hp
    | true =>
      rw [List.takeWhile_cons_of_pos hp] at h ⊢
      simpa using tw_at d l (by simpa using h)
theorem map_at {ι : α → Vl} (d : α) {l : List α} {i : Int} (j : Nat) (e : i = j) (h : j < l.length) : atU (l.map ι) i = some (ι (l.getD j d)) := by
  rw [e, at_nat, List.getElem?_map, List.getElem?_eq_getElem h, List.getD_eq_getElem?_getD, List.getElem?_eq_getElem h]; rfl
theorem xc_none : xc P n k .none env S = .val true env S := rfl
theorem xc_some {e : E} : xc P n k (.some e) env S = (xe P n k false e env S).bind kTru := by
  unfold xc; rw [evcP']; rfl
theorem tup0 : tupV [] env S = .val (.tup []) env S := if_pos (by show 0 ≤ 16777216; omega)
theorem new0 : newP [] = some (.lst .own []) := if_pos (by show 0 ≤ 16777216; omega)
theorem tup1 {a0 : Vl} : tupV [a0] env S = .val (.tup [a0]) env S := if_pos (by show 1 ≤ 16777216; omega)
theorem new1 {a0 : Vl} : newP [a0] = some (.lst .own [a0]) := if_pos (by show 1 ≤ 16777216; omega)
theorem tup2 {a0 a1 : Vl} : tupV [a0, a1] env S = .val (.tup [a0, a1]) env S := if_pos (by show 2 ≤ 16777216; omega)
theorem new2 {a0 a1 : Vl} : newP [a0, a1] = some (.lst .own [a0, a1]) := if_pos (by show 2 ≤ 16777216; omega)
theorem tup3 {a0 a1 a2 : Vl} : tupV [a0, a1, a2] env S = .val (.tup [a0, a1, a2]) env S := if_pos (by show 3 ≤ 16777216; omega)
theorem new3 {a0 a1 a2 : Vl} : newP [a0, a1, a2] = some (.lst .own [a0, a1, a2]) := if_pos (by show 3 ≤ 16777216; omega)
theorem tup4 {a0 a1 a2 a3 : Vl} : tupV [a0, a1, a2, a3] env S = .val (.tup [a0, a1, a2, a3]) env S := if_pos (by show 4 ≤ 16777216; omega)
theorem new4 {a0 a1 a2 a3 : Vl} : newP [a0, a1, a2, a3] = some (.lst .own [a0, a1, a2, a3]) := if_pos (by show 4 ≤ 16777216; omega)
theorem tup5 {a0 a1 a2 a3 a4 : Vl} : tupV [a0, a1, a2, a3, a4] env S = .val (.tup [a0, a1, a2, a3, a4]) env S := if_pos (by show 5 ≤ 16777216; omega)
theorem new5 {a0 a1 a2 a3 a4 : Vl} : newP [a0, a1, a2, a3, a4] = some (.lst .own [a0, a1, a2, a3, a4]) := if_pos (by show 5 ≤ 16777216; omega)
theorem tup6 {a0 a1 a2 a3 a4 a5 : Vl} : tupV [a0, a1, a2, a3, a4, a5] env S = .val (.tup [a0, a1, a2, a3, a4, a5]) env S := if_pos (by show 6 ≤ 16777216; omega)
theorem new6 {a0 a1 a2 a3 a4 a5 : Vl} : newP [a0, a1, a2, a3, a4, a5] = some (.lst .own [a0, a1, a2, a3, a4, a5]) := if_pos (by show 6 ≤ 16777216; omega)
theorem tup7 {a0 a1 a2 a3 a4 a5 a6 : Vl} : tupV [a0, a1, a2, a3, a4, a5, a6] env S = .val (.tup [a0, a1, a2, a3, a4, a5, a6]) env S := if_pos (by show 7 ≤ 16777216; omega)
theorem new7 {a0 a1 a2 a3 a4 a5 a6 : Vl} : newP [a0, a1, a2, a3, a4, a5, a6] = some (.lst .own [a0, a1, a2, a3, a4, a5, a6]) := if_pos (by show 7 ≤ 16777216; omega)
theorem tup8 {a0 a1 a2 a3 a4 a5 a6 a7 : Vl} : tupV [a0, a1, a2, a3, a4, a5, a6, a7] env S = .val (.tup [a0, a1, a2, a3, a4, a5, a6, a7]) env S := if_pos (by show 8 ≤ 16777216; omega)
theorem new8 {a0 a1 a2 a3 a4 a5 a6 a7 : Vl} : newP [a0, a1, a2, a3, a4, a5, a6, a7] = some (.lst .own [a0, a1, a2, a3, a4, a5, a6, a7]) := if_pos (by show 8 ≤ 16777216; omega)
theorem tup9 {a0 a1 a2 a3 a4 a5 a6 a7 a8 : Vl} : tupV [a0, a1, a2, a3, a4, a5, a6, a7, a8] env S = .val (.tup [a0, a1, a2, a3, a4, a5, a6, a7, a8]) env S := if_pos (by show 9 ≤ 16777216; omega)
theorem new9 {a0 a1 a2 a3 a4 a5 a6 a7 a8 : Vl} : newP [a0, a1, a2, a3, a4, a5, a6, a7, a8] = some (.lst .own [a0, a1, a2, a3, a4, a5, a6, a7, a8]) := if_pos (by show 9 ≤ 16777216; omega)
theorem tup10 {a0 a1 a2 a3 a4 a5 a6 a7 a8 a9 : Vl} : tupV [a0, a1, a2, a3, a4, a5, a6, a7, a8, a9] env S = .val (.tup [a0, a1, a2, a3, a4, a5, a6, a7, a8, a9]) env S := if_pos (by show 10 ≤ 16777216; omega)
theorem new10 {a0 a1 a2 a3 a4 a5 a6 a7 a8 a9 : Vl} : newP [a0, a1, a2, a3, a4, a5, a6, a7, a8, a9] = some (.lst .own [a0, a1, a2, a3, a4, a5, a6, a7, a8, a9]) := if_pos (by show 10 ≤ 16777216; omega)
theorem tup11 {a0 a1 a2 a3 a4 a5 a6 a7 a8 a9 a10 : Vl} : tupV [a0, a1, a2, a3, a4, a5, a6, a7, a8, a9, a10] env S = .val (.tup [a0, a1, a2, a3, a4, a5, a6, a7, a8, a9, a10]) env S := if_pos (by show 11 ≤ 16777216; omega)
theorem new11 {a0 a1 a2 a3 a4 a5 a6 a7 a8 a9 a10 : Vl} : newP [a0, a1, a2, a3, a4, a5, a6, a7, a8, a9, a10] = some (.lst .own [a0, a1, a2, a3, a4, a5, a6, a7, a8, a9, a10]) := if_pos (by show 11 ≤ 16777216; omega)
theorem tup12 {a0 a1 a2 a3 a4 a5 a6 a7 a8 a9 a10 a11 : Vl} : tupV [a0, a1, a2, a3, a4, a5, a6, a7, a8, a9, a10, a11] env S = .val (.tup [a0, a1, a2, a3, a4, a5, a6, a7, a8, a9, a10, a11]) env S := if_pos (by show 12 ≤ 16777216; omega)
theorem new12 {a0 a1 a2 a3 a4 a5 a6 a7 a8 a9 a10 a11 : Vl} : newP [a0, a1, a2, a3, a4, a5, a6, a7, a8, a9, a10, a11] = some (.lst .own [a0, a1, a2, a3, a4, a5, a6, a7, a8, a9, a10, a11]) := if_pos (by show 12 ≤ 16777216; omega)
theorem kp_fl {v : Vl} {p : Pl} (h : kd v = .flat) : kpV (some v) p env S = .val v env S := by
  show (match kd v with | .flat => _ | .own => _ | .bad => _) = _
  rw [h]
theorem mv_fl {v : Vl} {i : Nat} (h : kd v = .flat) : mvV (some v) i env S = .val v env S := by
  show (match kd v with | .flat => _ | .own => _ | .bad => _) = _
  rw [h]
theorem ln_fl {v : Vl} {p : Pl} {f : Vl → VE → OS → RV} (h : kd v = .flat) : lnV (some v) p env S f = f v env S := by
  cases v <;> first | rfl | (rename_i o us; cases o <;> first | rfl | cases h) | cases h
theorem frz_fl {v : Vl} (h : kd v = .flat) : frz v = v := by
  cases v <;> first | rfl | (rename_i o us; cases o <;> first | rfl | cases h) | cases h
theorem rd_fl {v : Vl} (h : kd v = .flat) : rdV (some v) env S = .val v env S := by
  cases v <;> first | rfl | cases h
theorem append_at (S : OS) (x : Nat × List (Nat × Vl)) : (S ++ [x])[S.length]? = some x := by
  rw [List.getElem?_append_right (Nat.le_refl _), Nat.sub_self]; rfl
theorem append_set (S : OS) (x y : Nat × List (Nat × Vl)) : (S ++ [x]).set S.length y = S ++ [y] := by
  rw [List.set_append_right _ _ (Nat.le_refl _), Nat.sub_self]; rfl
/-! stores -/
def sfC (b : Bool) (fs : List (Nat × Vl)) (S : OS) (o c f : Nat) (v : Vl) : Option OS := if fs.length < 1000 ∧ b = true then some (S.set o (c, setfP.putF f v fs)) else none
def sfK (q : Option (Nat × List (Nat × Vl))) (fl : List (Nat × Nat)) (S : OS) (o f : Nat) (v : Vl) : Option OS := match q with
  | some (c, fs) => sfC (fl.contains (c, f)) fs S o c f v
  | none => none
theorem setfP_lk {fl : List (Nat × Nat)} {o f : Nat} {v : Vl} : setfP fl S o f v = sfK S[o]? fl S o f v := rfl
theorem sfK_some {fl : List (Nat × Nat)} {o c f : Nat} {v : Vl} {fs : List (Nat × Vl)} : sfK (some (c, fs)) fl S o f v = sfC (fl.contains (c, f)) fs S o c f v := rfl
theorem sfC_t {fs : List (Nat × Vl)} {o c f : Nat} {v : Vl} (h : fs.length < 1000) : sfC true fs S o c f v = some (S.set o (c, setfP.putF f v fs)) := if_pos ⟨h, rfl⟩
def stK (q : Option (Nat × List (Nat × Vl))) (S : OS) (o f : Nat) (v : Vl) : OS := match q with
  | some (c, fs) => S.set o (c, repF f v fs)
  | none => S
theorem setF_lk {o f : Nat} {v : Vl} : setF S o f v = stK S[o]? S o f v := rfl
theorem stK_some {o c f : Nat} {v : Vl} {fs : List (Nat × Vl)} : stK (some (c, fs)) S o f v = S.set o (c, repF f v fs) := rfl
theorem rep_cons {f g : Nat} {v w : Vl} {r : List (Nat × Vl)} : repF f v ((g, w) :: r) = if g = f then (g, v) :: r else (g, w) :: repF f v r := rfl
/-! lists of texts, of numbers: equal, in -/
theorem datP_str {k : Nat} {x : Str} (h : PySem.PyData.strOk x = true) : datP k (.str x) = some (.str x) := by
  cases k <;> exact if_pos h
theorem eqv_strsP : ∀ ns ms : List Str, PySem.PyData.eqvAll (ns.map .str) (ms.map .str) = decide (ns = ms)
  | [], [] => by simp [PySem.PyData.eqvAll]
  | [], m :: ms => by simp [PySem.PyData.eqvAll]
  | n :: ns, [] => by simp [PySem.PyData.eqvAll]
  | n :: ns, m :: ms => by
    simp only [List.map_cons, PySem.PyData.eqvAll, PySem.PyData.eqv, eqv_strsP ns ms]
    by_cases h : n = m <;> by_cases h2 : ns = ms <;> simp [h, h2]
theorem eqP_strs {o o' : Ow} {xs ys : List Str} (hx : ∀ x ∈ xs, PySem.PyData.strOk x = true) (hy : ∀ x ∈ ys, PySem.PyData.strOk x = true) : eqP (.lst o (xs.map .str)) (.lst o' (ys.map .str)) = some (decide (xs = ys)) := by
  show eqDP _ _ = _
  rw [eqDP_of (datP_lst (k := 19) (δ := PySem.PyData.str) fun a h => datP_str (hx a h)) (datP_lst (k := 19) (δ := PySem.PyData.str) fun a h => datP_str (hy a h)), PySem.PyData.eqv, eqv_strsP]
theorem eqP_nil {o o' : Ow} : eqP (.lst o []) (.lst o' []) = some true := rfl
theorem seqO_len {f : Vl → Option PySem.PyData} : ∀ (us : List Vl) (ds : List PySem.PyData), seqO (us.map f) = some ds → ds.length = us.length
  | [], ds, h => by cases h; rfl
  | u :: us, ds, h => by
    rw [List.map_cons] at h
    cases hf : f u with
    | none => rw [hf] at h; cases h
    | some d =>
      rw [hf] at h
      cases hs : seqO (us.map f) with
      | none =>
        have h : (seqO (us.map f)).map _ = some ds := h
        rw [hs] at h; cases h
      | some es =>
        have h : (seqO (us.map f)).map _ = some ds := h
        rw [hs] at h
        cases h
        simp [seqO_len us es hs]
/-- is a list the empty one? -/
theorem eqP_isnil {o o' : Ow} {us : List Vl} (h : Dat DEPTH (.lst o us)) : eqP (.lst o us) (.lst o' []) = some us.isEmpty := by
  obtain ⟨d, e⟩ := h
  show eqDP _ _ = _
  have e0 : datP DEPTH (.lst o us) = (seqO (us.map (datP 19))).map .list := rfl
  have e' := e
  rw [e0] at e'
  cases hs : seqO (us.map (datP 19)) with
  | none => rw [hs] at e'; cases e'
  | some ds =>
    rw [hs] at e'
    cases e'
    rw [eqDP_of (e := .list []) e rfl]
    have := seqO_len us ds hs
    cases ds with
    | nil => cases us with
      | nil => rfl
      | cons u us => cases this
    | cons d ds => cases us with
      | nil => cases this
      | cons u us => simp [PySem.PyData.eqv, PySem.PyData.eqvAll]
theorem memP_L {x : Vl} {o : Ow} {us : List Vl} : memP x (.lst o us) = memIP x (.lst o us) := by cases x <;> rfl
theorem memP_T {x : Vl} {us : List Vl} : memP x (.tup us) = memIP x (.tup us) := by cases x <;> rfl
theorem memP_ints {i : Int} {o : Ow} {ns : List Int} : memP (.int i) (.lst o (ns.map .int)) = some (decide (i ∈ ns)) := by
  rw [memP_L]
  unfold memIP itemsP
  simp only
  rw [if_pos ⟨rfl, by rw [List.all_map]; exact List.all_eq_true.mpr fun _ _ => rfl⟩]
  congr 1
  rw [List.any_map, Bool.eq_iff_iff, List.any_eq_true, decide_eq_true_eq]
  constructor
  · rintro ⟨x, hx, h⟩
    have : x = i := by simpa [eqFP] using h
    exact this ▸ hx
  · exact fun h => ⟨i, h, by simp [eqFP]⟩
theorem memP_strs {i : Str} {o : Ow} {ns : List Str} : memP (.str i) (.lst o (ns.map .str)) = some (decide (i ∈ ns)) := by
  rw [memP_L]
  unfold memIP itemsP
  simp only
  rw [if_pos ⟨rfl, by rw [List.all_map]; exact List.all_eq_true.mpr fun _ _ => rfl⟩]
  congr 1
  rw [List.any_map, Bool.eq_iff_iff, List.any_eq_true, decide_eq_true_eq]
  constructor
  · rintro ⟨x, hx, h⟩
    have : x = i := by simpa [eqFP] using h
    exact this ▸ hx
  · exact fun h => ⟨i, h, by simp [eqFP]⟩
end
end PyM
set_option linter.all false
set_option autoImplicit false
set_option maxRecDepth 100000
set_option maxHeartbeats 1000000
/-! Two walks in one comprehension; dicts that grow. -/
namespace PyM
open PyI
section
variable {P : Pg} {n k : Nat} {env : VE} {S : OS} {α β : Type}
theorem loopGP_pure (ι : α → Vl) {t : Tg} {own : List Nat} {b : List Vl → VE → OS → RP (List Vl)} (W : VE) (g : α → List Vl) :
    ∀ (items : List α) (acc : List Vl) (env : VE), acc.length + (items.flatMap g).length ≤ 16777216 → wipeP env own = W →
    (∀ a ∈ items, ∃ env1, bindP t (ι a) W = some env1 ∧ ∀ acc : List Vl, acc.length + (g a).length ≤ 16777216 → ∃ env2, b acc env1 S = .val (acc ++ g a) env2 S ∧ wipeP env2 own = W) →
    ∃ env', loopGP t own b (items.map ι) acc env S = .val (acc ++ items.flatMap g) env' S ∧ wipeP env' own = W
  | [], acc, env, _, hW, _ => ⟨env, by simp [loopGP], hW⟩
  | u :: us, acc, env, hz, hW, h => by
    obtain ⟨env1, h1, h2⟩ := h u List.mem_cons_self
    rw [List.flatMap_cons, List.length_append] at hz
    obtain ⟨env2, h3, h4⟩ := h2 acc (by omega)
    obtain ⟨env', e1, e2⟩ := loopGP_pure ι W g us (acc ++ g u) env2 (by rw [List.length_append]; omega) h4 fun a ha => h a (List.mem_cons_of_mem _ ha)
    refine ⟨env', ?_, e2⟩
    rw [List.map_cons]
    unfold loopGP
    rw [hW, h1]
    simp only [h3, rp_bind_val]
    rw [e1, List.flatMap_cons, List.append_assoc]
/-- two walks, each with its test -/
theorem xe_comp2F (ι : α → Vl) (κ : α → β → Vl) {b : Bool} {own own1 : List Nat} {t t1 : Tg} {it it1 : It} {c c1 : Eo} {e : E} {env0 : VE} {items : List α} {bk : List Pl} (hq : xi P n k it env S = .val ⟨items.map ι, bk⟩ env0 S) (hf : freeOf env0 t own = true) (hi : ∀ i ∈ own, i < env0.length)
    (f : α → Bool) (sub : α → List β) (f1 : α → β → Bool) (g : α → β → Vl)
    (hl : (items.flatMap sub).length ≤ 16777216)
    (h : ∀ a ∈ items, ∃ env1, bindP t (ι a) (wipeP env0 own) = some env1 ∧ ∃ env2, xc P n k c env1 S = .val (f a) env2 S ∧ wipeP env2 own = wipeP env0 own ∧ (f a = true → ∃ env3, xi P n k it1 env2 S = .val ⟨(sub a).map (κ a), []⟩ env3 S ∧ freeOf env3 t1 own1 = true ∧ (∀ i ∈ own1, i < env3.length) ∧ wipeP env3 own = wipeP env0 own ∧
      ∀ x ∈ sub a, ∃ env4, bindP t1 (κ a x) (wipeP env3 own1) = some env4 ∧ ∃ env5, xc P n k c1 env4 S = .val (f1 a x) env5 S ∧ (f1 a x = false → wipeP env5 own1 = wipeP env3 own1) ∧ (f1 a x = true → ∃ env6, xe P n k true e env5 S = .val (g a x) env6 S ∧ wipeP env6 own1 = wipeP env3 own1))) :
    xe P n k b (.comp2 own t it c own1 t1 it1 c1 e) env S = (unlends bk env0 S).bind fun _ env S => .val (.lst .own ((items.filter f).flatMap fun a => ((sub a).filter (f1 a)).map fun x => frz (g a x))) env S := by
  have e0 : ((items.filter f).flatMap fun a => ((sub a).filter (f1 a)).map fun x => frz (g a x)) = items.flatMap fun a => if f a = true then ((sub a).filter (f1 a)).map (fun x => frz (g a x)) else [] := by
    clear hl hq h
    induction items with
    | nil => rfl
    | cons a as ih =>
      rw [List.flatMap_cons]
      cases hfa : f a with
      | true => rw [List.filter_cons_of_pos hfa, List.flatMap_cons, ih, if_pos rfl]
      | false => rw [List.filter_cons_of_neg (by simp [hfa]), ih, if_neg (by simp)]; rfl
  have le : ∀ as : List α, (as.flatMap fun a => if f a = true then ((sub a).filter (f1 a)).map (fun x => frz (g a x)) else []).length ≤ (as.flatMap sub).length := by
    intro as
    induction as with
    | nil => exact Nat.le_refl _
    | cons a as ih =>
      rw [List.flatMap_cons, List.flatMap_cons, List.length_append, List.length_append]
      have : (if f a = true then ((sub a).filter (f1 a)).map (fun x => frz (g a x)) else []).length ≤ (sub a).length := by
        split
        · rw [List.length_map]; exact List.length_filter_le ..
        · exact Nat.zero_le _
      omega
  show evP P (callP P n k) b (.comp2 own t it c own1 t1 it1 c1 e) env S = _
  have hq2 : eviP P (callP P n k) it env S = .val ⟨items.map ι, bk⟩ env0 S := hq
  obtain ⟨env', e1, e2⟩ := loopGP_pure (S := S) ι (t := t) (own := own) (b := fun acc env1 S1 => (evcP' P (callP P n k) c env1 S1).bind fun kk env1 S1 => if kk then (eviP P (callP P n k) it1 env1 S1).bind fun q1 env1 S2 => if freeOf env1 t1 own1 && q1.back.isEmpty then (loopCP t1 own1 (evcP' P (callP P n k) c1) (evP P (callP P n k) true e) q1.items acc env1 S2).bind fun acc env2 S2 => .val acc (backP env1 env2 own1) S2 else .stuck else .val acc env1 S1) (wipeP env0 own) (fun a => if f a = true then ((sub a).filter (f1 a)).map (fun x => frz (g a x)) else []) items [] env0 (by have := le items; simp only [List.length_nil]; omega) rfl (fun a ha => by
    obtain ⟨env1, h1, env2, h2, h3, h4⟩ := h a ha
    have h2' : evcP' P (callP P n k) c env1 S = .val (f a) env2 S := h2
    refine ⟨env1, h1, fun acc hacc => ?_⟩
    cases hfa : f a with
    | false =>
      refine ⟨env2, ?_, h3⟩
      rw [h2', hfa]
      simp
    | true =>
      obtain ⟨env3, h5, h6, h7, h8, h9⟩ := h4 hfa
      have h5' : eviP P (callP P n k) it1 env2 S = .val ⟨(sub a).map (κ a), []⟩ env3 S := h5
      rw [hfa, if_pos rfl] at hacc
      have key : ∀ acc : List Vl, acc.length + ((sub a).filter (f1 a)).length ≤ 16777216 → ∃ env', loopCP t1 own1 (evcP' P (callP P n k) c1) (evP P (callP P n k) true e) ((sub a).map (κ a)) acc env3 S = .val (acc ++ (((sub a).filter (f1 a)).map fun x => frz (g a x))) env' S ∧ wipeP env' own1 = wipeP env3 own1 := by
        clear hacc h5 h5'
        intro acc hacc
        have gen : ∀ (xs : List β) (acc : List Vl) (ev : VE), (∀ x ∈ xs, x ∈ sub a) → acc.length + (xs.filter (f1 a)).length ≤ 16777216 → wipeP ev own1 = wipeP env3 own1 → ∃ env', loopCP t1 own1 (evcP' P (callP P n k) c1) (evP P (callP P n k) true e) (xs.map (κ a)) acc ev S = .val (acc ++ ((xs.filter (f1 a)).map fun x => frz (g a x))) env' S ∧ wipeP env' own1 = wipeP env3 own1 := by
          intro xs
          induction xs with
          | nil => intro acc ev _ _ hw; exact ⟨ev, by simp [loopCP], hw⟩
          | cons x xs ih =>
            intro acc ev hm hz hw
            obtain ⟨env4, g1, env5, g2, g3, g4⟩ := h9 x (hm x List.mem_cons_self)
            have g2' : evcP' P (callP P n k) c1 env4 S = .val (f1 a x) env5 S := g2
            rw [List.map_cons]
            unfold loopCP
            rw [hw, g1]
            simp only [g2', rp_bind_val]
            cases hx : f1 a x with
            | false =>
              rw [List.filter_cons_of_neg (by simp [hx])] at hz ⊢
              obtain ⟨env', r1, r2⟩ := ih acc env5 (fun y hy => hm y (List.mem_cons_of_mem _ hy)) hz (g3 hx)
              exact ⟨env', by simpa using r1, r2⟩
            | true =>
              rw [List.filter_cons_of_pos hx, List.length_cons] at hz
              rw [List.filter_cons_of_pos hx]
              obtain ⟨env6, g5, g6⟩ := g4 hx
              have g5' : evP P (callP P n k) true e env5 S = .val (g a x) env6 S := g5
              obtain ⟨env', r1, r2⟩ := ih (acc ++ [frz (g a x)]) env6 (fun y hy => hm y (List.mem_cons_of_mem _ hy)) (by rw [List.length_append]; simp only [List.length_cons, List.length_nil]; omega) g6
              refine ⟨env', ?_, r2⟩
              simp only [if_true, g5', rp_bind_val]
              rw [if_pos (by show acc.length < 16777216; omega), r1, List.map_cons, List.append_assoc]
              rfl
        exact gen (sub a) acc env3 (fun _ h => h) hacc rfl
      obtain ⟨env', r1, r2⟩ := key acc (by rw [List.length_map] at hacc; exact hacc)
      refine ⟨env3, ?_, h8⟩
      rw [h2', hfa]
      simp only [rp_bind_val, if_true, h5', h6, List.isEmpty_nil, Bool.and_self, r1, backP_self r2 h7])
  rw [evP, hq2, rp_bind_val]
  simp only [hf, if_true, e1, noXP_val, rp_bind_val, backP_self e2 hi, List.nil_append, e0]
theorem xe_comp2M (ι : α → Vl) (κ : α → β → Vl) {b : Bool} {own own1 : List Nat} {t t1 : Tg} {it it1 : It} {e : E} {env0 : VE} {items : List α} {bk : List Pl} (hq : xi P n k it env S = .val ⟨items.map ι, bk⟩ env0 S) (hf : freeOf env0 t own = true) (hi : ∀ i ∈ own, i < env0.length)
    (sub : α → List β) (g : α → β → Vl)
    (hl : (items.flatMap sub).length ≤ 16777216)
    (h : ∀ a ∈ items, ∃ env1, bindP t (ι a) (wipeP env0 own) = some env1 ∧ wipeP env1 own = wipeP env0 own ∧ ∃ env3, xi P n k it1 env1 S = .val ⟨(sub a).map (κ a), []⟩ env3 S ∧ freeOf env3 t1 own1 = true ∧ (∀ i ∈ own1, i < env3.length) ∧ wipeP env3 own = wipeP env0 own ∧
      ∀ x ∈ sub a, ∃ env4, bindP t1 (κ a x) (wipeP env3 own1) = some env4 ∧ ∃ env6, xe P n k true e env4 S = .val (g a x) env6 S ∧ wipeP env6 own1 = wipeP env3 own1) :
    xe P n k b (.comp2 own t it .none own1 t1 it1 .none e) env S = (unlends bk env0 S).bind fun _ env S => .val (.lst .own (items.flatMap fun a => (sub a).map fun x => frz (g a x))) env S := by
  rw [xe_comp2F ι κ hq hf hi (fun _ => true) sub (fun _ _ => true) g hl (fun a ha => by
    obtain ⟨env1, h1, h2, env3, h3, h4, h5, h6, h7⟩ := h a ha
    refine ⟨env1, h1, env1, rfl, h2, fun _ => ⟨env3, h3, h4, h5, h6, fun x hx => ?_⟩⟩
    obtain ⟨env4, g1, env6, g2, g3⟩ := h7 x hx
    exact ⟨env4, g1, env4, rfl, (fun h => by cases h), fun _ => ⟨env6, g2, g3⟩⟩)]
  congr 1
  funext _ env S
  rw [List.filter_eq_self.mpr (fun _ _ => rfl)]
  congr 2
  congr 1
  funext a
  rw [List.filter_eq_self.mpr (fun _ _ => rfl)]
theorem putKV_new {γ : Type} {q : Key} {u : γ} {kvs : List (Key × γ)} (h : ∀ p ∈ kvs, p.1 ≠ q) : putKV q u kvs = kvs ++ [(q, u)] := by
  unfold putKV
  rw [if_neg]
  intro e
  rw [List.any_eq_true] at e
  obtain ⟨p, hp, e⟩ := e
  exact h p hp (of_decide_eq_true e)
theorem getK_app {γ : Type} {q : Key} (a b : List (Key × γ)) : getK q (a ++ b) = (getK q a).or (getK q b) := by
  unfold getK
  rw [List.find?_append]
  cases a.find? fun p => decide (p.1 = q) <;> simp
theorem getK_cons {γ : Type} {q : Key} {p : Key × γ} (b : List (Key × γ)) : getK q (p :: b) = if p.1 = q then some p.2 else getK q b := by
  unfold getK
  rw [List.find?_cons]
  by_cases h : p.1 = q
  · simp [h]
  · simp [h]
theorem loopF_nx {t : Tg} {b : VE → OS → OP} {u : Vl} {us : List Vl} {env1 e : VE} {S1 : OS} (h : bindP t u env = some env1) (h2 : b env1 S = .nx e S1) : loopFP t b (u :: us) env S = loopFP t b us e S1 := by
  rw [loopFP, h]; simp only [h2]
theorem loopF_ct {t : Tg} {b : VE → OS → OP} {u : Vl} {us : List Vl} {env1 e : VE} {S1 : OS} (h : bindP t u env = some env1) (h2 : b env1 S = .ct e S1) : loopFP t b (u :: us) env S = loopFP t b us e S1 := by
  rw [loopFP, h]; simp only [h2]
theorem loopF_rt {t : Tg} {b : VE → OS → OP} {u v : Vl} {us : List Vl} {env1 e : VE} {S1 : OS} (h : bindP t u env = some env1) (h2 : b env1 S = .rt v e S1) : loopFP t b (u :: us) env S = .rt v e S1 := by
  rw [loopFP, h]; simp only [h2]
theorem loopF_bk {t : Tg} {b : VE → OS → OP} {u : Vl} {us : List Vl} {env1 e : VE} {S1 : OS} (h : bindP t u env = some env1) (h2 : b env1 S = .bk e S1) : loopFP t b (u :: us) env S = .nx e S1 := by
  rw [loopFP, h]; simp only [h2]
theorem loopF_nil {t : Tg} {b : VE → OS → OP} : loopFP t b [] env S = .nx env S := rfl
theorem atl0 {α : Type} {a0 : α} {l : List α} : atU (a0 :: l) 0 = some a0 := by
  unfold atU; rw [if_pos (by decide), if_pos (by simp only [List.length_cons]; omega)]; rfl
theorem atl1 {α : Type} {a0 a1 : α} {l : List α} : atU (a0 :: a1 :: l) 1 = some a1 := by
  unfold atU; rw [if_pos (by decide), if_pos (by simp only [List.length_cons]; omega)]; rfl
theorem atl2 {α : Type} {a0 a1 a2 : α} {l : List α} : atU (a0 :: a1 :: a2 :: l) 2 = some a2 := by
  unfold atU; rw [if_pos (by decide), if_pos (by simp only [List.length_cons]; omega)]; rfl
theorem atl3 {α : Type} {a0 a1 a2 a3 : α} {l : List α} : atU (a0 :: a1 :: a2 :: a3 :: l) 3 = some a3 := by
  unfold atU; rw [if_pos (by decide), if_pos (by simp only [List.length_cons]; omega)]; rfl
theorem atl4 {α : Type} {a0 a1 a2 a3 a4 : α} {l : List α} : atU (a0 :: a1 :: a2 :: a3 :: a4 :: l) 4 = some a4 := by
  unfold atU; rw [if_pos (by decide), if_pos (by simp only [List.length_cons]; omega)]; rfl
theorem atl5 {α : Type} {a0 a1 a2 a3 a4 a5 : α} {l : List α} : atU (a0 :: a1 :: a2 :: a3 :: a4 :: a5 :: l) 5 = some a5 := by
  unfold atU; rw [if_pos (by decide), if_pos (by simp only [List.length_cons]; omega)]; rfl
theorem atl6 {α : Type} {a0 a1 a2 a3 a4 a5 a6 : α} {l : List α} : atU (a0 :: a1 :: a2 :: a3 :: a4 :: a5 :: a6 :: l) 6 = some a6 := by
  unfold atU; rw [if_pos (by decide), if_pos (by simp only [List.length_cons]; omega)]; rfl
theorem atl7 {α : Type} {a0 a1 a2 a3 a4 a5 a6 a7 : α} {l : List α} : atU (a0 :: a1 :: a2 :: a3 :: a4 :: a5 :: a6 :: a7 :: l) 7 = some a7 := by
  unfold atU; rw [if_pos (by decide), if_pos (by simp only [List.length_cons]; omega)]; rfl
theorem atl8 {α : Type} {a0 a1 a2 a3 a4 a5 a6 a7 a8 : α} {l : List α} : atU (a0 :: a1 :: a2 :: a3 :: a4 :: a5 :: a6 :: a7 :: a8 :: l) 8 = some a8 := by
  unfold atU; rw [if_pos (by decide), if_pos (by simp only [List.length_cons]; omega)]; rfl
theorem atl9 {α : Type} {a0 a1 a2 a3 a4 a5 a6 a7 a8 a9 : α} {l : List α} : atU (a0 :: a1 :: a2 :: a3 :: a4 :: a5 :: a6 :: a7 :: a8 :: a9 :: l) 9 = some a9 := by
  unfold atU; rw [if_pos (by decide), if_pos (by simp only [List.length_cons]; omega)]; rfl
theorem atl10 {α : Type} {a0 a1 a2 a3 a4 a5 a6 a7 a8 a9 a10 : α} {l : List α} : atU (a0 :: a1 :: a2 :: a3 :: a4 :: a5 :: a6 :: a7 :: a8 :: a9 :: a10 :: l) 10 = some a10 := by
  unfold atU; rw [if_pos (by decide), if_pos (by simp only [List.length_cons]; omega)]; rfl
theorem atl11 {α : Type} {a0 a1 a2 a3 a4 a5 a6 a7 a8 a9 a10 a11 : α} {l : List α} : atU (a0 :: a1 :: a2 :: a3 :: a4 :: a5 :: a6 :: a7 :: a8 :: a9 :: a10 :: a11 :: l) 11 = some a11 := by
  unfold atU; rw [if_pos (by decide), if_pos (by simp only [List.length_cons]; omega)]; rfl
theorem atlm {α : Type} {a : α} {l : List α} : atU (l ++ [a]) (-1) = some a := by
  unfold atU
  rw [if_neg (by decide), if_pos (by simp only [List.length_append, List.length_cons, List.length_nil]; omega), show ((-1 : Int) + ((l ++ [a]).length : Nat)).toNat = l.length by simp only [List.length_append, List.length_cons, List.length_nil]; omega, List.getElem?_append_right (Nat.le_refl _), Nat.sub_self]; rfl
end
end PyM
set_option linter.all false
set_option autoImplicit false
set_option maxRecDepth 100000
set_option maxHeartbeats 1000000
/-! Loops that hand back at the first item of a kind; lists that shrink. -/
namespace PyM
open PyI
section
variable {P : Pg} {n k : Nat} {S : OS} {α β : Type}
/-- for x in xs: if p(x): return v -/
theorem loopFP_any (ι : α → Vl) {t : Tg} {b : VE → OS → OP} (E : VE) (Q : VE → Prop) (p : α → Bool) (v : Vl) : ∀ xs : List α,
    (∀ a ∈ xs, ∃ env1, bindP t (ι a) E = some env1 ∧ (p a = false → b env1 S = .nx E S) ∧ (p a = true → ∃ e, b env1 S = .rt v e S ∧ Q e)) →
    (xs.any p = true ∧ ∃ e, loopFP t b (xs.map ι) E S = .rt v e S ∧ Q e) ∨ (xs.any p = false ∧ loopFP t b (xs.map ι) E S = .nx E S)
  | [], _ => .inr ⟨rfl, rfl⟩
  | a :: xs, h => by
    obtain ⟨env1, h1, h2, h3⟩ := h a List.mem_cons_self
    rw [List.map_cons, List.any_cons]
    cases hp : p a with
    | true =>
      obtain ⟨e, h4, h5⟩ := h3 hp
      exact .inl ⟨rfl, e, loopF_rt h1 h4, h5⟩
    | false =>
      rw [loopF_nx h1 (h2 hp), Bool.false_or]
      exact loopFP_any ι E Q p v xs fun x hx => h x (List.mem_cons_of_mem _ hx)
/-- for x in xs: something that changes a state told by a value -/
theorem loopFP_acc {σ : Type} (ι : α → Vl) {t : Tg} {b : VE → OS → OP} (E : σ → VE) (f : σ → α → σ) (I : σ → Prop) : ∀ (xs : List α) (s : σ), I s →
    (∀ a ∈ xs, ∀ s, I s → ∃ env1, bindP t (ι a) (E s) = some env1 ∧ (b env1 S = .nx (E (f s a)) S ∨ b env1 S = .ct (E (f s a)) S) ∧ I (f s a)) →
    loopFP t b (xs.map ι) (E s) S = .nx (E (xs.foldl f s)) S ∧ I (xs.foldl f s)
  | [], s, hs, _ => ⟨rfl, hs⟩
  | a :: xs, s, hs, h => by
    obtain ⟨env1, h1, h2, h3⟩ := h a List.mem_cons_self s hs
    have ih := loopFP_acc ι E f I xs (f s a) h3 fun x hx => h x (List.mem_cons_of_mem _ hx)
    rw [List.map_cons, List.foldl_cons]
    rcases h2 with h2 | h2
    · rw [loopF_nx h1 h2]; exact ih
    · rw [loopF_ct h1 h2]; exact ih
theorem filter_lt {p q : α → Bool} (hpq : ∀ x, p x = true → q x = true) : ∀ {l : List α} {a : α}, a ∈ l → q a = true → p a = false → (l.filter p).length < (l.filter q).length := by
  have le : ∀ l : List α, (l.filter p).length ≤ (l.filter q).length := by
    intro l
    induction l with
    | nil => exact Nat.le_refl _
    | cons x l ih =>
      rw [List.filter_cons, List.filter_cons]
      cases hp : p x with
      | true => rw [if_pos rfl, if_pos (hpq x hp), List.length_cons, List.length_cons]; omega
      | false =>
        rw [if_neg (by simp)]
        split
        · rw [List.length_cons]; omega
        · exact ih
  intro l
  induction l with
  | nil => intro a h; cases h
  | cons x l ih =>
    intro a h hq hp
    rw [List.filter_cons, List.filter_cons]
    rcases List.mem_cons.mp h with rfl | h
    · rw [hp, hq, if_neg (by simp), if_pos rfl]
      have := le l
      rw [List.length_cons]; omega
    · have := ih h hq hp
      cases hp2 : p x with
      | true => rw [if_pos rfl, if_pos (hpq x hp2), List.length_cons, List.length_cons]; omega
      | false =>
        rw [if_neg (by simp)]
        split
        · rw [List.length_cons]; omega
        · exact this
theorem any_congr {f g : α → Bool} : ∀ {l : List α}, (∀ x ∈ l, f x = g x) → l.any f = l.any g
  | [], _ => rfl
  | x :: l, h => by rw [List.any_cons, List.any_cons, h x List.mem_cons_self, any_congr fun y hy => h y (List.mem_cons_of_mem _ hy)]
theorem any_mem {f : α → Bool} {l l' : List α} (h : ∀ x, x ∈ l ↔ x ∈ l') : l.any f = l'.any f := by
  rw [Bool.eq_iff_iff, List.any_eq_true, List.any_eq_true]
  exact ⟨fun ⟨x, a, b⟩ => ⟨x, (h x).mp a, b⟩, fun ⟨x, a, b⟩ => ⟨x, (h x).mpr a, b⟩⟩
/-- a walk over something that is kept -/
theorem xi_chars {e : E} {env : VE} : xi P n k (.chars e) env S = (xe P n k true e env S).bind (kSeq seqV) := by
  unfold xi; rw [eviP]; exact q_none (f := seqV)
/-- for x in xs: something that may hand back, and may change names -/
theorem loopFP_someI (ι : α → Vl) {t : Tg} {b : VE → OS → OP} (Inv : VE → Prop) (ρ : α → Option Vl) : ∀ (xs : List α) (env : VE), Inv env →
    (∀ a ∈ xs, ∀ env, Inv env → ∃ env1, bindP t (ι a) env = some env1 ∧ (ρ a = none → ∃ e, (b env1 S = .nx e S ∨ b env1 S = .ct e S) ∧ Inv e) ∧ ∀ v, ρ a = some v → ∃ e, b env1 S = .rt v e S) →
    (∃ v e, xs.findSome? ρ = some v ∧ loopFP t b (xs.map ι) env S = .rt v e S) ∨ (xs.findSome? ρ = none ∧ ∃ e, loopFP t b (xs.map ι) env S = .nx e S ∧ Inv e)
  | [], env, hi, _ => .inr ⟨rfl, env, rfl, hi⟩
  | a :: xs, env, hi, h => by
    obtain ⟨env1, h1, h2, h3⟩ := h a List.mem_cons_self env hi
    rw [List.map_cons, List.findSome?_cons]
    cases hp : ρ a with
    | some v =>
      obtain ⟨e, h4⟩ := h3 v hp
      exact .inl ⟨v, e, rfl, loopF_rt h1 h4⟩
    | none =>
      obtain ⟨e, h4, h5⟩ := h2 hp
      have ih := loopFP_someI ι Inv ρ xs e h5 fun x hx => h x (List.mem_cons_of_mem _ hx)
      rcases h4 with h4 | h4
      · rw [loopF_nx h1 h4]; exact ih
      · rw [loopF_ct h1 h4]; exact ih
theorem backP_none {old env : VE} : ∀ {own : List Nat}, (∀ v ∈ own, old[v]? = some none) → backP old env own = wipeP env own
  | [], _ => rfl
  | v :: vs, h => by
    unfold backP
    rw [h v List.mem_cons_self]
    show (backP old env vs).set v none = (wipeP env vs).set v none
    rw [backP_none fun x hx => h x (List.mem_cons_of_mem _ hx)]
theorem loopGP_inv (ι : α → Vl) {t : Tg} {own : List Nat} {b : List Vl → VE → OS → RP (List Vl)} (I : VE → Prop) (g : α → List Vl) :
    ∀ (items : List α) (acc : List Vl) (env : VE), acc.length + (items.flatMap g).length ≤ 16777216 → I (wipeP env own) →
    (∀ a ∈ items, ∀ W, I W → ∃ env1, bindP t (ι a) W = some env1 ∧ ∀ acc : List Vl, acc.length + (g a).length ≤ 16777216 → ∃ env2, b acc env1 S = .val (acc ++ g a) env2 S ∧ I (wipeP env2 own)) →
    ∃ env', loopGP t own b (items.map ι) acc env S = .val (acc ++ items.flatMap g) env' S ∧ I (wipeP env' own)
  | [], acc, env, _, hW, _ => ⟨env, by simp [loopGP], hW⟩
  | u :: us, acc, env, hz, hW, h => by
    obtain ⟨env1, h1, h2⟩ := h u List.mem_cons_self _ hW
    rw [List.flatMap_cons, List.length_append] at hz
    obtain ⟨env2, h3, h4⟩ := h2 acc (by omega)
    obtain ⟨env', e1, e2⟩ := loopGP_inv ι I g us (acc ++ g u) env2 (by rw [List.length_append]; omega) h4 fun a ha => h a (List.mem_cons_of_mem _ ha)
    refine ⟨env', ?_, e2⟩
    rw [List.map_cons]
    unfold loopGP
    rw [h1]
    simp only [h3, rp_bind_val]
    rw [e1, List.flatMap_cons, List.append_assoc]
/-- two walks; names may change on the way -/
theorem xe_comp2I (ι : α → Vl) (κ : α → β → Vl) (I : VE → Prop) {env env0 : VE} {b : Bool} {own own1 : List Nat} {t t1 : Tg} {it it1 : It} {e : E} {items : List α} {bk : List Pl} (hq : xi P n k it env S = .val ⟨items.map ι, bk⟩ env0 S) (hf : freeOf env0 t own = true) (hn : ∀ v ∈ own, env0[v]? = some none) (hI : I (wipeP env0 own))
    (sub : α → List β) (g : α → β → Vl) (hl : (items.flatMap sub).length ≤ 16777216)
    (h : ∀ a ∈ items, ∀ W, I W → ∃ env1, bindP t (ι a) W = some env1 ∧ ∃ env3, xi P n k it1 env1 S = .val ⟨(sub a).map (κ a), []⟩ env3 S ∧ freeOf env3 t1 own1 = true ∧ (∀ i ∈ own1, i < env3.length) ∧ I (wipeP env3 own) ∧
      ∀ x ∈ sub a, ∃ env4, bindP t1 (κ a x) (wipeP env3 own1) = some env4 ∧ ∃ env6, xe P n k true e env4 S = .val (g a x) env6 S ∧ wipeP env6 own1 = wipeP env3 own1) :
    ∃ W, I W ∧ xe P n k b (.comp2 own t it .none own1 t1 it1 .none e) env S = (unlends bk W S).bind fun _ env S => .val (.lst .own (items.flatMap fun a => (sub a).map fun x => frz (g a x))) env S := by
  have le : ∀ as : List α, (as.flatMap fun a => (sub a).map fun x => frz (g a x)).length = (as.flatMap sub).length := by
    intro as
    induction as with
    | nil => rfl
    | cons a as ih => rw [List.flatMap_cons, List.flatMap_cons, List.length_append, List.length_append, ih, List.length_map]
  have hq2 : eviP P (callP P n k) it env S = .val ⟨items.map ι, bk⟩ env0 S := hq
  obtain ⟨env', e1, e2⟩ := loopGP_inv (S := S) ι (t := t) (own := own) (b := fun acc env1 S1 => (evcP' P (callP P n k) .none env1 S1).bind fun kk env1 S1 => if kk then (eviP P (callP P n k) it1 env1 S1).bind fun q1 env1 S2 => if freeOf env1 t1 own1 && q1.back.isEmpty then (loopCP t1 own1 (evcP' P (callP P n k) .none) (evP P (callP P n k) true e) q1.items acc env1 S2).bind fun acc env2 S2 => .val acc (backP env1 env2 own1) S2 else .stuck else .val acc env1 S1) I (fun a => (sub a).map fun x => frz (g a x)) items [] env0 (by rw [le]; simpa using hl) hI (fun a ha W hW => by
    obtain ⟨env1, h1, env3, h2, h3, h4, h5, h6⟩ := h a ha W hW
    have h2' : eviP P (callP P n k) it1 env1 S = .val ⟨(sub a).map (κ a), []⟩ env3 S := h2
    refine ⟨env1, h1, fun acc hacc => ?_⟩
    rw [List.length_map] at hacc
    have h6' : ∀ x ∈ sub a, ∃ env1, bindP t1 (κ a x) (wipeP env3 own1) = some env1 ∧ ∃ env2, evcP' P (callP P n k) .none env1 S = .val ((fun _ => true) x) env2 S ∧ ((fun _ : β => true) x = false → wipeP env2 own1 = wipeP env3 own1) ∧ ((fun _ : β => true) x = true → ∃ env6, evP P (callP P n k) true e env2 S = .val (g a x) env6 S ∧ wipeP env6 own1 = wipeP env3 own1) := fun x hx => by
      obtain ⟨env4, g1, env6, g2, g3⟩ := h6 x hx
      exact ⟨env4, g1, env4, by rw [evcP'], (fun h => by cases h), fun _ => ⟨env6, g2, g3⟩⟩
    obtain ⟨env', r1, r2⟩ := loopCP_pure (κ a) (wipeP env3 own1) (fun _ => true) (g a) (sub a) acc env3 (by omega) rfl h6'
    rw [List.filter_eq_self.mpr (fun _ _ => rfl)] at r1
    have e0 : evcP' P (callP P n k) Eo.none = fun x x_1 => RP.val true x x_1 := by funext a b; rw [evcP']
    rw [e0] at r1
    refine ⟨env3, ?_, h5⟩
    simp only [evcP', rp_bind_val, if_true, h2', h3, List.isEmpty_nil, Bool.and_self, r1, backP_self r2 h4])
  refine ⟨wipeP env' own, e2, ?_⟩
  show evP P (callP P n k) b (.comp2 own t it .none own1 t1 it1 .none e) env S = _
  rw [evP, hq2, rp_bind_val]
  simp only [hf, if_true, e1, noXP_val, rp_bind_val, backP_none hn, List.nil_append]
/-! ### texts sorted; a text between quotes -/
theorem biP_sortedS {o : Ow} {xs : List Str} (h : xs.length < 64) : biP .sorted [.lst o (xs.map .str)] = some (.lst .own ((sortS xs).map .str)) := by
  cases xs with
  | nil => simp [biP, asIntsP, sortI, sortS]
  | cons x xs =>
    have h2 := asStrsP_map (x :: xs)
    simp only [biP, h2, h, if_true]
    rfl
theorem biP_rvl {o : Ow} {us : List Vl} : biP .rvl [.lst o us] = some (.lst .own us.reverse) := rfl
theorem biP_sortedI {o : Ow} {xs : List Int} : biP .sorted [.lst o (xs.map .int)] = some (.lst .own ((sortI xs).map .int)) := by
  simp only [biP, asIntsP_map]
theorem xe_esc {env : VE} {b : Bool} {i : Nat} {q a c d e x : Str} (h : env[i]?.join = some (.str x)) : xe P n k b (.esc i q a c d e) env S = ofP env S ((escS q a c d e x).map .str) := by
  unfold xe
  rw [evP, h]
end
end PyM
namespace Lk08
open PyI PyM
theorem mo_octets_number : mdOf P 0 = [.ln] := rfl
theorem mo_size_fits : mdOf P 1 = [.ln] := rfl
theorem mo_cut_messages : mdOf P 2 = [.ln] := rfl
theorem mo_Cutter___init__ : mdOf P 3 = [.ln] := rfl
theorem mo_Cutter_fault : mdOf P 4 = [.ln] := rfl
theorem mo_Cutter_uncut : mdOf P 5 = [.ln] := rfl
theorem mo_Cutter_feed : mdOf P 6 = [.ln, .ln] := rfl
theorem mo__law_cell : mdOf P 7 = [.ln, .ln] := rfl
theorem mo__law_row : mdOf P 8 = [.ln, .ln] := rfl
theorem mo__law_message : mdOf P 9 = [.ln] := rfl
theorem mo__law_stream : mdOf P 10 = [.ln, .ln] := rfl
theorem mo__law_cut : mdOf P 11 = [.ln] := rfl
theorem mo_law : mdOf P 12 = [.ln] := rfl
theorem md_ok : P.fns.all mdB = true := by decide +kernel
local macro_rules
  | `(tactic| simp_arith [$ls,*]) => `(tactic| simp (maxSteps := 10000000) (disch := first | decide | omega | assumption | (simp only [List.length_cons, List.length_nil, List.length_append, List.length_map, List.length_replicate, List.length_range] <;> omega)) only [eAsg, eRet, eExp, eBin, eBin2, eCmp, eCmp2, eCh, eCh2, ch_t, ch_f, eAnd, and_t, and_f, eOr, or_t, or_f, eNot, eIfe, ife_t, ife_f, eLst, eIx, eIx2, eCut, eCut2, eCut3, eBi, eTru, eUs, eUsT, eUsF, eXa, eCall, eMeth, eMk, eBm, ty_t, eBm2, eSetf, eAug, eMut, eBack, eBackX, eTry, eSeq, eFor, eSeti, eSeti1, eSeti2, eDel1, eDel2, xs_del, plcO_some, ownO_ownD, plc_var, getP_v, getP_f, setiV_di, setiV_ds, delV_i, delV_s, xs_kill, eqP_nil, setfP_lk, sfK_some, sfC_t, setF_lk, stK_some, rep_cons, xe_dctL, eDctL, eDctL2, pairs_nil, pairs_s, pairs_i, ixP_di, ixP_ds, memP_di, memP_ds, bmP_get_i, bmP_get_s, bmP_get2_i, bmP_get2_s, bdM_pop_i, bdM_pop_s, eRng, eBmF, mth1_some, mth2_some, xb_nil, xb_cons, sqb_nx, sqb_rt, sqb_bk, sqb_ct, sqb_exc, ifK_t, ifK_f, ifK_x, getF_lk, lkF_some, xs_asg, xs_asgT, xs_setf, xs_aug, xs_exp, xs_ret, xs_retN, xs_if, xs_for, xs_brk, xs_cnt, xs_pass, xs_raise, xs_try, xs_seti, try_nx, try_rt, try_exc, listO_some, natO_some, fnO_some, intO_some, objO_some, xh_nil, xh_cons, bnd1, bnd2, bnd3, bnd4, setf_obj, nxV_some, aug_add, aug_sub, xt_eq, xe_var, xe_varT, xe_mov, xe_movT, xe_int, xe_str, xe_bl, xe_non, xe_fnv, xe_glo, xe_bin, xe_neg, xe_cmp, xe_cmp2, xe_and, xe_or, xe_not, xe_ife, xe_tup, xe_lst, xe_ix, xe_cut, xe_fld, xe_call, xe_callv, xe_meth, xe_mk, xe_bi, xe_dict0, xe_bmV, xe_bmF, xe_bm, mutV_q, mutV_n, mutV_qD, mutV_nD, unl_val, unl_exc, rd_int, rd_str, rd_bl, rd_non, rd_tup, rd_lst, rd_dct, rd_obj, rd_fn, rd_scr, kp_int, mv_int, ln_int, lq_int, tk_int, kp_str, mv_str, ln_str, lq_str, tk_str, kp_bl, mv_bl, ln_bl, lq_bl, tk_bl, kp_non, mv_non, ln_non, lq_non, tk_non, kp_tup, mv_tup, ln_tup, lq_tup, tk_tup, kp_obj, mv_obj, ln_obj, lq_obj, tk_obj, kp_fn, mv_fn, ln_fn, lq_fn, tk_fn, kp_no, mv_no, ln_no, lq_no, tk_no, kp_dno, mv_dno, ln_dno, lq_dno, tk_dno, kp_ownL, kp_ownLF, kp_ownD, mv_ownL, mv_ownD, fld_f, fld_t, neg_int, tup0, new0, tup1, new1, tup2, new2, tup3, new3, tup4, new4, tup5, new5, tup6, new6, tup7, new7, tup8, new8, tup9, new9, tup10, new10, tup11, new11, tup12, new12, tup_of, opt_int, xl_nil, xl_consT, xl_consF, xo_none, xo_some, xc_none, xc_some, unlends_nil, unlends_one, wipeP_nil, wipeP_cons, xa_nil, xa_kp, xa_lnV, xa_lnF, ln_fld, xa_ln, xa_mtV, ln_scr, ln_lent, ln_lentD, ln_own, ln_ownD, tk_own, meth_obj, xi_seqV, xi_seqF, xi_seq, xi_chars, q_fld, xi_revV, xi_rev, xi_enumV, xi_enum, xi_rng1, xi_rng2, xi_rrng1, lq_scr, lq_lent, lq_own, seq_lst, seq_tup, seq_scr, seq_tx, rev_lst, rev_tup, enum_lst, rng1_int, rng2_int, rrng1_int, un_v, un_f, unV_l, unV_d, give_v, give_f, gi_own, gi_ownD, tk_ownD, xs_augfI, augW_obj, augW2_int, finZ_rt, finZ_nx, List.take_succ_cons, List.take_zero, mutAt_v, mutAt_f, mu_own, mu_some, mu_ownD, mu_someD, putE_v, putE_f, putS_v, putS_f, valE_var, valE_fld, fldO_obj, plc_fld, plO_obj, ownO_own, setiV_own, ofP_some, ofP_none, rp_bind_val, rp_bind_exc, rp_out_val, rp_out_exc, rp_arg_val, rp_arg_exc, dn_un, dn_up, dn_upM, dn_upK, q_up_val, q_up_exc, q_mk_val, q_mk_exc, p_un_val, p_un_exc, rc_up_val, rc_up_exc, rv_dn_val, rv_dn_exc, rv_gv_val, noXoP_nx, noXoP_rt, endO_nil, endO_one, endO_oneR, finQ_rt, finQ_nx, finQ_exc, dT, dF, ofS_ne, g0, gS, s0, sS, jn, quiet, quiets, quietO, mutB, tyP, truP_bl, truP_int, truP_tup, truP_lst, truP_dct, truP_non, binP_addI, binP_subI, mulI, mulI', fdivI, modI, binP_addL, binP_addT, newP_of, cmpP_ltI, cmpP_leI, cmpP_gtI, cmpP_geI, cmpP_eq, cmpP_ne, cmpP_mem, cmpP_nmem, cmpP_isB, cmpP_isnotB, cmpP_isNn, cmpP_isNi, cmpP_isNs, cmpP_isNt, cmpP_isNb, cmpP_isNo, cmpP_isNl, cmpP_notNn, cmpP_notNi, cmpP_notNs, cmpP_notNt, cmpP_notNb, cmpP_notNo, cmpP_notNl, eqP_int, eqP_str, eqP_sn, eqP_ns, eqP_bl, eqP_nn, eqP_in, eqP_ni, eqP_tup2, eqP_tup3, eqP_tup4, ixP_tup, ixP_lst, atl0, atl1, atl2, atl3, atl4, atl5, atl6, atl7, atl8, atl9, atl10, atl11, Int.toNat_natCast, ixP_scr, cutP_lst, cutP_tup, lenP_tup, lenP_lst, lenP_scr, lenP_dct, biP_len, biP_int, biP_intB, biP_abs, biP_min, biP_max, biP_listL, biP_listT, biP_listS, biP_listD, biP_dictOf, itemsP_lst, biP_tupleL, biP_rvl, biP_isi, isiP, itemsP_lst, itemsP_tup, itemsP_scr, toV_int, toV_str, toV_tup, toV_f0, toV_fi, toV_fs, bmM_append, bmM_extend, bmM_pop, bmM_insert, Option.map_some, Option.map_none, Option.bind_some, Option.some.injEq, if_true, if_false, Bool.false_eq_true, Bool.not_true, Bool.not_false, Bool.true_and, Bool.false_and, Bool.and_true, Bool.and_false, decide_true, decide_false, decide_eq_true_eq, Bool.not_eq_true', Bool.decide_eq_true, List.nil_append, List.cons_append, List.map_cons, List.map_nil, List.tail_cons, List.replicate_succ, List.replicate_zero, List.append_assoc, List.isEmpty_nil, List.isEmpty_cons, Nat.sub_self, Nat.reduceSub, Nat.reduceEqDiff, List.headD_cons, frz_int, frz_bl, frz_str, frz_non, frz_tup, frz_obj, frz_fn, frz_no, frz_own, frz_down, look_hit, look_miss, look_nil, putF_nil, putF_cons, List.length_cons, List.length_nil, List.length_map, List.length_append, List.length_reverse, List.length_range, List.length_replicate, Nat.reduceAdd, reduceCtorEq, ne_eq, not_true, not_false_iff, eq_self, gl_0, gl_1, mo_octets_number, mo_size_fits, mo_cut_messages, mo_Cutter___init__, mo_Cutter_fault, mo_Cutter_uncut, mo_Cutter_feed, mo__law_cell, mo__law_row, mo__law_message, mo__law_stream, mo__law_cut, mo_law, me_0_2, me_0_3, me_0_4, in_0, fl_0_0, fl_0_1, $ls,*])
theorem loopW_bk {c : VE → OS → RP Bool} {b : VE → OS → OP} {n : Nat} {env env1 e : VE} {S S1 S2 : OS} (h1 : c env S = .val true env1 S1) (h2 : b env1 S1 = .bk e S2) : loopWP c b (n + 1) env S = .nx e S2 := by
  rw [loopWP, h1]
  show (match b env1 S1 with
    | .nx e S2 => loopWP c b n e S2
    | .ct e S2 => loopWP c b n e S2
    | .bk e S2 => .nx e S2
    | o => o) = _
  rw [h2]
def octN (os : List Int) : Int := os.foldr (fun o v => v * 256 + o) 0
def size (os : List Int) (at_ : Nat) : Int := octN ((os.drop (at_ + 6)).take 2)
def msg (os : List Int) (at_ : Nat) : Vl := .tup [.int (octN ((os.drop at_).take 4)), .int (octN ((os.drop (at_ + 4)).take 2)), .lst .no (((os.drop (at_ + 8)).take ((size os at_).toNat - 8)).map .int)]
def cutF (os : List Int) : Nat → Nat → List Vl → List Vl × Nat × Bool
  | 0, a, acc => (acc, a, false)
  | f + 1, a, acc => if a + 8 ≤ os.length then (if 8 ≤ size os a ∧ size os a ≤ 20480 ∧ size os a % 4 = 0 then (if (os.length : Int) - a < size os a then (acc, a, false) else cutF os f (a + (size os a).toNat) (acc ++ [msg os a])) else (acc, a, true)) else (acc, a, false)
def res (os : List Int) (r : List Vl × Nat × Bool) : Vl := .tup [.lst .no r.1, .lst .no ((os.drop r.2.1).map .int), .bl r.2.2]
def C (os : List Int) : List Vl × Nat × Bool := cutF os (os.length + 1) 0 []
theorem drop_map (os : List Int) (a n : Nat) : ((os.map Vl.int).drop a).take n = ((os.drop a).take n).map Vl.int := by
  rw [List.map_take, List.map_drop]
section
variable (k : Nat) (S : OS)
theorem lpo (us : List Vl) : ∀ (os : List Int) (v : Int), loopFP (.nm 2) (xb P FUEL k lp_octets_number_0) (os.map .int) [some (.lst .lent us), some (.int v), none] S = .nx [some (.lst .lent us), some (.int (os.foldl (fun v o => v * 256 + o) v)), none] S
  | [], v => by simp [loopF_nil]
  | o :: os, v => by
    have ih := lpo us os (v * 256 + o)
    rw [List.map_cons]
    exact (loopF_nx (env1 := [some (.lst .lent us), some (.int v), some (.int o)]) (by rfl) (show _ = OP.nx [some (.lst .lent us), some (.int (v * 256 + o)), none] S from by simp_arith [lp_octets_number_0])).trans ih
theorem c_octn (os : List Int) : callQ P FUEL (k + 1) i_octets_number [.lst .own (os.map .int)] S = .val (.int (octN os)) S := by
  rw [callX at_octets_number rfl]
  have l := lpo k S (os.map .int) os.reverse 0
  rw [List.foldl_reverse, List.map_reverse] at l
  have e : os.foldr (fun x y => y * 256 + x) 0 = octN os := rfl
  rw [e] at l
  generalize os.map Vl.int = OV at *
  simp_arith [f_octets_number, b_octets_number, l]
theorem c_fits (v : Int) : callQ P FUEL (k + 1) i_size_fits [.int v] S = .val (.bl (decide (8 ≤ v ∧ v ≤ 20480 ∧ v % 4 = 0))) S := by
  rw [callX at_size_fits rfl]
  by_cases h : 8 ≤ v <;> by_cases h2 : v ≤ 20480 <;> by_cases h3 : v % 4 = 0 <;> simp_arith [f_size_fits, b_size_fits, h, h2, h3, true_and, false_and, and_true, and_false, decide_true, decide_false]
end
section
variable (k : Nat) (S : OS) (os : List Int) (o : Ow) (hos : os.length ≤ 90000)
include hos
theorem cut_loop : ∀ (f a : Nat) (acc : List Vl) (n : Nat), os.length < a + f → f < n → acc.length ≤ a → a ≤ os.length →
    (∃ e, (cutF os f a acc).2.2 = true ∧ loopWP (xt P FUEL (k + 1) wc_cut_messages_0) (xb P FUEL (k + 1) lp_cut_messages_0) n [some (.lst o (os.map .int)), some (.lst .own acc), some (.int a), none, none, none] S = .rt (res os (cutF os f a acc)) e S) ∨
    (∃ x3, (cutF os f a acc).2.2 = false ∧ loopWP (xt P FUEL (k + 1) wc_cut_messages_0) (xb P FUEL (k + 1) lp_cut_messages_0) n [some (.lst o (os.map .int)), some (.lst .own acc), some (.int a), none, none, none] S = .nx [some (.lst o (os.map .int)), some (.lst .own (cutF os f a acc).1), some (.int (cutF os f a acc).2.1), x3, none, none] S)
  | 0, a, acc, n, h1, h2, h3, h4 => by omega
  | f + 1, a, acc, 0, h1, h2, h3, h4 => by omega
  | f + 1, a, acc, n + 1, h1, h2, h3, h4 => by
    have ln : ∀ o, lenP (.lst o (os.map .int)) = some os.length := fun o => by show some _ = _; rw [List.length_map]
    unfold cutF
    by_cases c1 : a + 8 ≤ os.length
    · have w : (8 : Int) ≤ (os.length : Int) - a := by omega
      have cI : ∀ (x y : Nat), x ≤ y → cutP (.lst o (os.map .int)) (some (x : Int)) (some (y : Int)) = some (.lst .own (((os.drop x).take (y - x)).map .int)) := fun x y h => by
        show some (Vl.lst .own (cutU _ _ _)) = _
        rw [cut_int _ _ _ (by omega) (by omega), Int.toNat_natCast, Int.toNat_natCast, drop_map]
      have f6 := cI (a + 6) (a + 8) (by omega)
      rw [show a + 8 - (a + 6) = 2 by omega, show ((a + 6 : Nat) : Int) = (a : Int) + 6 by omega, show ((a + 8 : Nat) : Int) = (a : Int) + 8 by omega] at f6
      have fr : cutP (.lst o (os.map .int)) (some (a : Int)) none = some (.lst .own ((os.drop a).map .int)) := by
        show some (Vl.lst .own (cutU _ _ _)) = _
        rw [cut_from _ _ (by omega), Int.toNat_natCast, ← List.map_drop]
      have s6 := c_octn k S ((os.drop (a + 6)).take 2)
      have z := c_fits k S (size os a)
      have ct : xt P FUEL (k + 1) wc_cut_messages_0 [some (.lst o (os.map .int)), some (.lst .own acc), some (.int a), none, none, none] S = .val true [some (.lst o (os.map .int)), some (.lst .own acc), some (.int a), none, none, none] S := by
        generalize os.map Vl.int = OV at *
        cases o <;> simp_arith [wc_cut_messages_0, ln, w]
      rw [if_pos c1]
      unfold size at *
      generalize hz : octN ((os.drop (a + 6)).take 2) = sz at *
      generalize ((os.drop (a + 6)).take 2).map Vl.int = O6 at *
      by_cases c2 : 8 ≤ sz ∧ sz ≤ 20480 ∧ sz % 4 = 0
      · rw [if_pos c2]
        rw [decide_eq_true c2] at z
        by_cases c3 : (os.length : Int) - a < sz
        · rw [if_pos c3]
          refine .inr ⟨some (.int sz), rfl, ?_⟩
          refine loopW_bk ct ?_
          generalize os.map Vl.int = OV at *
          cases o <;> simp_arith [lp_cut_messages_0, f6, s6, z, c3, ln]
        · rw [if_neg c3]
          have f4 := cI a (a + 4) (by omega)
          rw [show a + 4 - a = 4 by omega, show ((a + 4 : Nat) : Int) = (a : Int) + 4 by omega] at f4
          have f5 := cI (a + 4) (a + 6) (by omega)
          rw [show a + 6 - (a + 4) = 2 by omega, show ((a + 4 : Nat) : Int) = (a : Int) + 4 by omega, show ((a + 6 : Nat) : Int) = (a : Int) + 6 by omega] at f5
          have f8 := cI (a + 8) (a + sz.toNat) (by omega)
          rw [show a + sz.toNat - (a + 8) = sz.toNat - 8 by omega, show ((a + 8 : Nat) : Int) = (a : Int) + 8 by omega, show ((a + sz.toNat : Nat) : Int) = (a : Int) + sz by omega] at f8
          have s4 := c_octn k S ((os.drop a).take 4)
          have s5 := c_octn k S ((os.drop (a + 4)).take 2)
          have ih' := cut_loop f (a + sz.toNat) (acc ++ [msg os a]) n (by omega) (by omega) (by simp; omega) (by omega)
          have hm : msg os a = .tup [.int (octN ((os.drop a).take 4)), .int (octN ((os.drop (a + 4)).take 2)), .lst .no (((os.drop (a + 8)).take (sz.toNat - 8)).map .int)] := by unfold msg size; rw [hz]
          rw [show ((a + sz.toNat : Nat) : Int) = (a : Int) + sz by omega] at ih'
          have st : xb P FUEL (k + 1) lp_cut_messages_0 [some (.lst o (os.map .int)), some (.lst .own acc), some (.int a), none, none, none] S = .nx [some (.lst o (os.map .int)), some (.lst .own (acc ++ [msg os a])), some (.int ((a : Int) + sz)), none, none, none] S := by
            rw [hm]
            clear ih' hm
            generalize os.map Vl.int = OV at *
            generalize ((os.drop (a + 8)).take (sz.toNat - 8)).map Vl.int = O8 at *
            generalize octN ((os.drop a).take 4) = n4 at *
            generalize octN ((os.drop (a + 4)).take 2) = n5 at *
            generalize ((os.drop a).take 4).map Vl.int = O4 at *
            generalize ((os.drop (a + 4)).take 2).map Vl.int = O5 at *
            cases o <;> simp_arith [lp_cut_messages_0, f6, s6, z, c3, ln, f4, f5, f8, s4, s5]
          rw [loopW_nx ct st]
          exact ih'
      · rw [if_neg c2]
        rw [decide_eq_false c2] at z
        refine .inl ?_
        have st : ∃ e, xb P FUEL (k + 1) lp_cut_messages_0 [some (.lst o (os.map .int)), some (.lst .own acc), some (.int a), none, none, none] S = .rt (res os (acc, a, true)) e S := by
          unfold res
          simp only
          generalize os.map Vl.int = OV at *
          generalize (os.drop a).map Vl.int = OA at *
          cases o <;> exact ⟨_, by simp_arith [lp_cut_messages_0, f6, s6, z, fr]; rfl⟩
        obtain ⟨e, st⟩ := st
        exact ⟨e, rfl, loopW_rt ct st⟩
    · rw [if_neg c1]
      refine .inr ⟨none, rfl, ?_⟩
      have w : ¬ (8 : Int) ≤ (os.length : Int) - a := by omega
      refine loopW_f ?_
      generalize os.map Vl.int = OV at *
      cases o <;> simp_arith [wc_cut_messages_0, ln, w]
theorem c_cut : callQ P FUEL (k + 2) i_cut_messages [.lst o (os.map .int)] S = .val (res os (C os)) S := by
  rw [callX at_cut_messages rfl]
  have L := cut_loop k S os o hos (os.length + 1) 0 [] FUEL (by omega) (by unfold FUEL; omega) (by simp) (by omega)
  rw [show cutF os (os.length + 1) 0 [] = C os from rfl] at L
  simp only [Int.natCast_zero] at L
  generalize hR : C os = R at *
  obtain ⟨R1, R2, R3⟩ := R
  have fr : ∀ o, cutP (.lst o (os.map .int)) (some (R2 : Int)) none = some (.lst .own ((os.drop R2).map .int)) := fun o => by
    show some (Vl.lst .own (cutU _ _ _)) = _
    rw [cut_from _ _ (by omega), Int.toNat_natCast, ← List.map_drop]
  unfold res at *
  simp only at L ⊢
  generalize os.map Vl.int = OV at *
  generalize (os.drop R2).map Vl.int = OR at *
  rcases L with ⟨e, h1, h2⟩ | ⟨x3, h1, h2⟩
  · generalize Vl.tup [Vl.lst Ow.no R1, Vl.lst Ow.no OR, Vl.bl R3] = TT at *
    cases o <;> simp_arith [f_cut_messages, b_cut_messages, xs_whl, h2]
  · rw [h1]
    cases o <;> simp_arith [f_cut_messages, b_cut_messages, xs_whl, h2, fr]
end
theorem dt_app {d p : List Int} {i n : Nat} (h : i + n ≤ d.length) : ((d ++ p).drop i).take n = (d.drop i).take n := by
  rw [List.drop_append_of_le_length (by omega), List.take_append_of_le_length (by rw [List.length_drop]; omega)]
theorem size_app {d p : List Int} {a : Nat} (h : a + 8 ≤ d.length) : size (d ++ p) a = size d a := by
  unfold size; rw [dt_app (by omega)]
theorem msg_app {d p : List Int} {a : Nat} (h : a + 8 ≤ d.length) (h8 : 8 ≤ size d a) (h2 : a + (size d a).toNat ≤ d.length) : msg (d ++ p) a = msg d a := by
  unfold msg
  rw [size_app h, dt_app (by omega), dt_app (by omega), dt_app (by omega)]
theorem cut_fuel (os : List Int) : ∀ (f g a : Nat) (acc : List Vl), os.length < a + f → os.length < a + g → cutF os f a acc = cutF os g a acc
  | 0, 0, a, acc, _, _ => rfl
  | 0, g + 1, a, acc, h, _ => by unfold cutF; rw [if_neg (by omega)]
  | f + 1, 0, a, acc, _, h => by unfold cutF; rw [if_neg (by omega)]
  | f + 1, g + 1, a, acc, h1, h2 => by
    unfold cutF
    by_cases c1 : a + 8 ≤ os.length
    · rw [if_pos c1, if_pos c1]
      by_cases c2 : 8 ≤ size os a ∧ size os a ≤ 20480 ∧ size os a % 4 = 0
      · rw [if_pos c2, if_pos c2, cut_fuel os f g _ _ (by omega) (by omega)]
      · rw [if_neg c2, if_neg c2]
    · rw [if_neg c1, if_neg c1]
theorem cut_ge (os : List Int) : ∀ (f a : Nat) (acc : List Vl), a ≤ (cutF os f a acc).2.1 ∧ (a ≤ os.length → (cutF os f a acc).2.1 ≤ os.length)
  | 0, a, acc => ⟨Nat.le_refl _, id⟩
  | f + 1, a, acc => by
    unfold cutF
    by_cases c1 : a + 8 ≤ os.length
    · rw [if_pos c1]
      by_cases c2 : 8 ≤ size os a ∧ size os a ≤ 20480 ∧ size os a % 4 = 0
      · rw [if_pos c2]
        by_cases c3 : (os.length : Int) - a < size os a
        · rw [if_pos c3]; exact ⟨Nat.le_refl _, id⟩
        · rw [if_neg c3]
          have ih := cut_ge os f (a + (size os a).toNat) (acc ++ [msg os a])
          exact ⟨by omega, fun h => ih.2 (by omega)⟩
      · rw [if_neg c2]; exact ⟨Nat.le_refl _, id⟩
    · rw [if_neg c1]; exact ⟨Nat.le_refl _, id⟩
theorem cut_app (d p : List Int) : ∀ (f a : Nat) (acc : List Vl) (g : Nat), d.length < a + f → (d ++ p).length < a + g →
    cutF (d ++ p) g a acc = if (cutF d f a acc).2.2 = true then cutF d f a acc else cutF (d ++ p) g (cutF d f a acc).2.1 (cutF d f a acc).1
  | 0, a, acc, g, _, _ => rfl
  | f + 1, a, acc, g, h1, h2 => by
    by_cases c1 : a + 8 ≤ d.length
    · have l : d.length ≤ (d ++ p).length := by rw [List.length_append]; omega
      obtain ⟨g, rfl⟩ : ∃ m, g = m + 1 := ⟨g - 1, by omega⟩
      by_cases c2 : 8 ≤ size d a ∧ size d a ≤ 20480 ∧ size d a % 4 = 0
      · by_cases c3 : (d.length : Int) - a < size d a
        · have e : cutF d (f + 1) a acc = (acc, a, false) := by rw [cutF, if_pos c1, if_pos c2, if_pos c3]
          rw [e]; rfl
        · have e : cutF d (f + 1) a acc = cutF d f (a + (size d a).toNat) (acc ++ [msg d a]) := by rw [cutF, if_pos c1, if_pos c2, if_neg c3]
          have e2 : cutF (d ++ p) (g + 1) a acc = cutF (d ++ p) g (a + (size d a).toNat) (acc ++ [msg d a]) := by
            rw [cutF, if_pos (by omega), size_app c1, if_pos c2, if_neg (by omega), msg_app c1 (by omega) (by omega)]
          have ih := cut_app d p f (a + (size d a).toNat) (acc ++ [msg d a]) g (by omega) (by omega)
          have ge := (cut_ge d f (a + (size d a).toNat) (acc ++ [msg d a])).1
          rw [e, e2, ih]
          split
          · rfl
          · exact cut_fuel _ _ _ _ _ (by omega) (by omega)
      · have e : cutF d (f + 1) a acc = (acc, a, true) := by rw [cutF, if_pos c1, if_neg c2]
        rw [e, if_pos rfl, cutF, if_pos (by omega), size_app c1, if_neg c2]
    · have e : cutF d (f + 1) a acc = (acc, a, false) := by rw [cutF, if_neg c1]
      rw [e]; rfl
theorem size_drop (os : List Int) (s b : Nat) : size (os.drop s) b = size os (s + b) := by
  unfold size; rw [List.drop_drop, show s + (b + 6) = s + b + 6 by omega]
theorem msg_drop (os : List Int) (s b : Nat) : msg (os.drop s) b = msg os (s + b) := by
  unfold msg
  rw [size_drop, List.drop_drop, List.drop_drop, List.drop_drop, show s + (b + 4) = s + b + 4 by omega, show s + (b + 8) = s + b + 8 by omega]
theorem cut_shift (os : List Int) (s : Nat) (hs : s ≤ os.length) (acc : List Vl) : ∀ (f b : Nat) (acc2 : List Vl),
    cutF os f (s + b) (acc ++ acc2) = (acc ++ (cutF (os.drop s) f b acc2).1, s + (cutF (os.drop s) f b acc2).2.1, (cutF (os.drop s) f b acc2).2.2)
  | 0, b, acc2 => rfl
  | f + 1, b, acc2 => by
    have ll : (os.drop s).length = os.length - s := List.length_drop ..
    by_cases c1 : s + b + 8 ≤ os.length
    · have c1' : b + 8 ≤ (os.drop s).length := by omega
      by_cases c2 : 8 ≤ size os (s + b) ∧ size os (s + b) ≤ 20480 ∧ size os (s + b) % 4 = 0
      · by_cases c3 : (os.length : Int) - (s + b : Nat) < size os (s + b)
        · rw [cutF, if_pos c1, if_pos c2, if_pos c3, cutF, if_pos c1', size_drop, if_pos c2, if_pos (by omega)]
        · have ih := cut_shift os s hs acc f (b + (size os (s + b)).toNat) (acc2 ++ [msg os (s + b)])
          rw [cutF, if_pos c1, if_pos c2, if_neg c3, cutF, if_pos c1', size_drop, if_pos c2, if_neg (by omega), msg_drop, ← ih, List.append_assoc, Nat.add_assoc]
      · rw [cutF, if_pos c1, if_neg c2, cutF, if_pos c1', size_drop, if_neg c2]
    · rw [cutF, if_neg c1, cutF, if_neg (by omega)]
theorem C_le (d : List Int) : (C d).2.1 ≤ d.length := (cut_ge d _ 0 []).2 (Nat.zero_le _)
/-- a fault stays -/
theorem C_bad {d : List Int} (h : (C d).2.2 = true) (p : List Int) : C (d ++ p) = C d := by
  have e := cut_app d p (d.length + 1) 0 [] ((d ++ p).length + 1) (by omega) (by omega)
  rw [if_pos (show (cutF d (d.length + 1) 0 []).2.2 = true from h)] at e
  exact e
/-- what comes more -/
theorem C_more {d : List Int} (h : (C d).2.2 = false) (p : List Int) : C (d ++ p) = ((C d).1 ++ (C (d.drop (C d).2.1 ++ p)).1, (C d).2.1 + (C (d.drop (C d).2.1 ++ p)).2.1, (C (d.drop (C d).2.1 ++ p)).2.2) := by
  have e := cut_app d p (d.length + 1) 0 [] ((d ++ p).length + 1) (by omega) (by omega)
  rw [if_neg (by show ¬ (C d).2.2 = true; rw [h]; decide)] at e
  have le := C_le d
  have l : (d ++ p).length = d.length + p.length := List.length_append
  have sh := cut_shift (d ++ p) (C d).2.1 (by omega) (C d).1 ((d ++ p).length + 1) 0 []
  rw [List.append_nil, Nat.add_zero] at sh
  have dr : (d ++ p).drop (C d).2.1 = d.drop (C d).2.1 ++ p := List.drop_append_of_le_length le
  have fu : cutF ((d ++ p).drop (C d).2.1) ((d ++ p).length + 1) 0 [] = C ((d ++ p).drop (C d).2.1) := cut_fuel _ _ _ _ _ (by rw [List.length_drop]; omega) (by omega)
  rw [fu, dr] at sh
  show cutF (d ++ p) ((d ++ p).length + 1) 0 [] = _
  rw [e]
  exact sh
/-- what is left -/
def rst (d : List Int) : List Int := d.drop (C d).2.1
theorem rst_bad {d : List Int} (h : (C d).2.2 = true) (p : List Int) : rst (d ++ p) = rst d ++ p := by
  unfold rst
  rw [C_bad h, List.drop_append_of_le_length (C_le d)]
theorem rst_more {d : List Int} (h : (C d).2.2 = false) (p : List Int) : rst (d ++ p) = rst (rst d ++ p) := by
  have dr : (d ++ p).drop (C d).2.1 = rst d ++ p := List.drop_append_of_le_length (C_le d)
  show (d ++ p).drop (C (d ++ p)).2.1 = (rst d ++ p).drop (C (rst d ++ p)).2.1
  rw [C_more h]
  show (d ++ p).drop ((C d).2.1 + (C (rst d ++ p)).2.1) = _
  rw [← List.drop_drop, dr]
theorem cutF_dat (os : List Int) : ∀ (f a : Nat) (acc : List Vl), (∀ v ∈ acc, Dat 19 v) → ∀ v ∈ (cutF os f a acc).1, Dat 19 v
  | 0, a, acc, h => h
  | f + 1, a, acc, h => by
    unfold cutF
    split
    · split
      · split
        · exact h
        · refine cutF_dat os f _ _ fun v hv => ?_
          rcases List.mem_append.mp hv with hv | hv
          · exact h v hv
          · rw [List.mem_singleton] at hv
            subst hv
            refine Dat.tup fun v hv => ?_
            simp only [List.mem_cons, List.not_mem_nil, or_false] at hv
            rcases hv with rfl | rfl | rfl
            · exact Dat.int _ _
            · exact Dat.int _ _
            · exact Dat.ints _
      · exact h
    · exact h
theorem C_dat (os : List Int) {o o' : Ow} : eqP (.lst o (C os).1) (.lst o' (C os).1) = some true := eqP_reflL (Dat.lst (k := 19) fun v hv => by
  exact cutF_dat os _ 0 [] (fun v hv => by cases hv) v hv)
theorem cut_many (os : List Int) : ∀ (f a : Nat) (acc : List Vl), acc.length ≤ a → (cutF os f a acc).1.length ≤ (cutF os f a acc).2.1
  | 0, a, acc, h => h
  | f + 1, a, acc, h => by
    unfold cutF
    split
    · split
      · split
        · exact h
        · exact cut_many os f _ _ (by rw [List.length_append]; simp only [List.length_cons, List.length_nil]; omega)
      · exact h
    · exact h
theorem C_many (d : List Int) : (C d).1.length ≤ d.length := Nat.le_trans (cut_many d _ 0 [] (Nat.le_refl _)) (C_le d)
theorem C_nil : C [] = ([], 0, false) := by
  unfold C cutF
  rw [if_neg (by simp)]
section
variable (k : Nat) (S : OS)
theorem c_row (ns : List Int) (i : Int) : callQ P FUEL (k + 2) i__law_row [.scr (ns.map .int), .int i] S = .val (.int (rowV ns i)) S := row_runP (c := i__law_cell) rfl rfl at__law_cell at__law_row ns i
theorem c_msg (row : Int) (hr : 0 ≤ row) : ∃ ws : List Int, ws.length ≤ 28 ∧ callQ P FUEL (k + 1) i__law_message [.int row] S = .val (.lst .own (ws.map .int)) S := by
  obtain ⟨m, hm⟩ : ∃ m : Nat, (m : Int) = 4 * (row / 7 % 6) := ⟨(4 * (row / 7 % 6)).toNat, by omega⟩
  have cm : ∃ bs : List Int, bs.length = m ∧ ∀ (a b : Int), xe P FUEL k true cm__law_message_0 [some (.int row), some (.int a), some (.int b), none, none, none, none] S = .val (.lst .own (bs.map .int)) [some (.int row), some (.int a), some (.int b), none, none, none, none] S := by
    refine ⟨(List.range m).map fun j : Nat => row / ((j : Int) + 2) % 256, by simp, fun a b => ?_⟩
    unfold cm__law_message_0
    exact (xe_compM (items := List.range m) (bk := []) (env0 := [some (.int row), some (.int a), some (.int b), none, none, none, none]) (fun (y : Nat) => .int y) (by simp_arith [← hm]) (by simp [freeOf]) (by simp) (fun (y : Nat) => .int (row / ((y : Int) + 2) % 256)) (by rw [List.length_range]; omega) (fun y hy => have hy' := List.mem_range.mp hy; ⟨_, rfl, [some (.int row), some (.int a), some (.int b), none, some (.int y), none, none], by simp_arith [eq_self], rfl⟩)).trans (by simp_arith [List.map_map]; rfl)
  obtain ⟨bs, hb, cm⟩ := cm
  have lb : (bs.map Vl.int).length = m := by rw [List.length_map]; exact hb
  have lbn : ∀ o, lenP (.lst o (bs.map Vl.int)) = some m := fun o => by show some _ = _; rw [lb]
  rw [callX at__law_message rfl]
  by_cases h : row / 3 % 4 = 0
  · refine ⟨[(1 + row / 11 % 4294967295) / 1 % 256, (1 + row / 11 % 4294967295) / 256 % 256, (1 + row / 11 % 4294967295) / 65536 % 256, (1 + row / 11 % 4294967295) / 16777216 % 256, row / 13 % 65536 / 1 % 256, row / 13 % 65536 / 256 % 256, (m : Int) + 8, 0] ++ bs, by simp; omega, ?_⟩
    rw [List.map_append]
    generalize bs.map Vl.int = BV at *
    simp_arith [f__law_message, b__law_message, h, cm, lbn, List.map_cons, List.map_nil]
  · refine ⟨[(1 + row % 7) / 1 % 256, (1 + row % 7) / 256 % 256, (1 + row % 7) / 65536 % 256, (1 + row % 7) / 16777216 % 256, row / 5 % 9 / 1 % 256, row / 5 % 9 / 256 % 256, (m : Int) + 8, 0] ++ bs, by simp; omega, ?_⟩
    rw [List.map_append]
    generalize bs.map Vl.int = BV at *
    simp_arith [f__law_message, b__law_message, h, cm, lbn, List.map_cons, List.map_nil]
theorem c_stream (ns : List Int) (c : Nat) (hc : c ≤ 62) : ∃ us : List Int, us.length ≤ 2000 ∧ callQ P FUEL (k + 3) i__law_stream [.scr (ns.map .int), .int c] S = .val (.lst .own (us.map .int)) S := by
  obtain ⟨e, S1, lp, rfl, us, rfl, hl⟩ := loopFP_range (t := .nm 3) (b := xb P FUEL (k + 2) lp__law_stream_0) (m := c) (env := [some (.scr (ns.map .int)), some (.int c), some (.lst .own []), none, none, none]) (S := S) (fun j env S' => S' = S ∧ ∃ us : List Int, env = [some (.scr (ns.map .int)), some (.int c), some (.lst .own (us.map .int)), none, none, none] ∧ us.length ≤ 28 * j) ⟨rfl, [], rfl, by simp⟩ (by
    rintro j env S' hj ⟨rfl, us, rfl, hl⟩
    have r := c_row k S' ns j
    have rn := rowV_nn ns j
    generalize rowV ns j = row at r rn
    have lu : (us.map Vl.int).length ≤ 2000 := by rw [List.length_map]; omega
    refine ⟨[some (.scr (ns.map .int)), some (.int c), some (.lst .own (us.map .int)), some (.int j), none, none], rfl, ?_⟩
    by_cases h : row % 17 = 5
    · obtain ⟨n, hn⟩ : ∃ n : Nat, (n : Int) = row / 136 % 9 := ⟨(row / 136 % 9).toNat, by omega⟩
      obtain ⟨v, sz⟩ : ∃ v : Int, atU [Vl.int 0, .int 4, .int 7, .int 9, .int 10, .int 20481, .int 20484, .int 65532] (row / 17 % 8) = some (.int v) := by
        obtain ⟨m, hm⟩ : ∃ m : Nat, row / 17 % 8 = m := ⟨(row / 17 % 8).toNat, by omega⟩
        rw [hm, at_nat]
        have : m < 8 := by omega
        rcases m with _ | _ | _ | _ | _ | _ | _ | _ | m <;> first | exact ⟨_, rfl⟩ | omega
      have bm : binP .mul (.lst .own [.int 7]) (.int (row / 136 % 9)) = some (.lst .own ((List.replicate n (7 : Int)).map .int)) := by
        rw [← hn, binP_mulL _ _ _ (by omega), Int.toNat_natCast, List.map_replicate]
      refine ⟨[some (.scr (ns.map .int)), some (.int c), some (.lst .own ((us ++ ([1, 0, 0, 0, 0, 0, v % 256, v / 256] ++ List.replicate n 7)).map .int)), none, none, none], S', .inl ?_, rfl, _, rfl, by simp; omega⟩
      have lr : ((List.replicate n (7 : Int)).map Vl.int).length ≤ 9 := by rw [List.length_map, List.length_replicate]; omega
      rw [List.map_append, List.map_append]
      clear rn
      generalize (List.replicate n (7 : Int)).map Vl.int = RV at *
      generalize us.map Vl.int = UV at *
      generalize ns.map Vl.int = NV at *
      simp_arith [lp__law_stream_0, r, h, ↓sz, bm, List.map_cons, List.map_nil]
    · obtain ⟨ws, w2, w3⟩ := c_msg (k + 1) S' (row / 17) (by omega)
      refine ⟨[some (.scr (ns.map .int)), some (.int c), some (.lst .own ((us ++ ws).map .int)), none, none, none], S', .inl ?_, rfl, _, rfl, by rw [List.length_append]; omega⟩
      have lw : (ws.map Vl.int).length ≤ 28 := by rw [List.length_map]; omega
      rw [List.map_append]
      generalize ws.map Vl.int = WV at *
      generalize us.map Vl.int = UV at *
      generalize ns.map Vl.int = NV at *
      simp_arith [lp__law_stream_0, r, h, w3])
  have r := c_row k S1 ns (c + 63)
  have rn := rowV_nn ns (c + 63)
  generalize rowV ns (c + 63) = row at r rn
  obtain ⟨n, hn⟩ : ∃ n : Nat, (n : Int) = row % 12 := ⟨(row % 12).toNat, by omega⟩
  have cu : cutP (.lst .own [Vl.int 9, .int 0, .int 0, .int 0, .int 1, .int 0, .int 16, .int 0, .int 5, .int 5, .int 5]) none (some (row % 12)) = some (.lst .own (([9, 0, 0, 0, 1, 0, 16, 0, 5, 5, 5].take n).map Vl.int)) := by
    show some (Vl.lst .own (cutU _ _ _)) = _
    rw [cut_to _ _ (by omega), ← hn, Int.toNat_natCast, List.map_take]
    rfl
  refine ⟨us ++ [9, 0, 0, 0, 1, 0, 16, 0, 5, 5, 5].take n, by rw [List.length_append, List.length_take]; simp only [List.length_cons, List.length_nil]; omega, ?_⟩
  have l9 : (([9, 0, 0, 0, 1, 0, 16, 0, 5, 5, 5].take n).map Vl.int).length ≤ 11 := by rw [List.length_map, List.length_take]; simp only [List.length_cons, List.length_nil]; omega
  have lu : (us.map Vl.int).length ≤ 2000 := by rw [List.length_map]; omega
  rw [callX at__law_stream rfl, List.map_append]
  generalize ([9, 0, 0, 0, 1, 0, 16, 0, 5, 5, 5].take n).map Vl.int = NN at *
  generalize us.map Vl.int = UV at *
  generalize ns.map Vl.int = NV at *
  simp_arith [f__law_stream, b__law_stream, lp, r, cu]
end
def ob (o : Ow) (r : List Int) (fl : Bool) : Nat × List (Nat × Vl) := (0, [(0, .lst o (r.map .int)), (1, .bl fl)])
section
variable (k : Nat)
theorem c_init (S : OS) : callQ P FUEL (k + 1) i_Cutter___init__ [.obj S.length] (S ++ [(0, [])]) = .val .non (S ++ [(0, [(0, .lst .own []), (1, .bl false)])]) := by
  rw [callX at_Cutter___init__ rfl]
  simp_arith [f_Cutter___init__, b_Cutter___init__, append_at, append_set]
theorem c_fault (o : Ow) (r : List Int) (fl : Bool) : callQ P FUEL (k + 1) i_Cutter_fault [.obj 0] [ob o r fl] = .val (.bl fl) [ob o r fl] := by
  rw [callX at_Cutter_fault rfl]
  unfold ob
  generalize r.map Vl.int = RV
  simp_arith [f_Cutter_fault, b_Cutter_fault]
theorem c_uncut (o : Ow) (ho : o ≠ .lent) (r : List Int) (fl : Bool) : callQ P FUEL (k + 1) i_Cutter_uncut [.obj 0] [ob o r fl] = .val (.lst .own (r.map .int)) [ob o r fl] := by
  rw [callX at_Cutter_uncut rfl]
  unfold ob
  generalize r.map Vl.int = RV
  cases o with
  | lent => exact absurd rfl ho
  | own => simp_arith [f_Cutter_uncut, b_Cutter_uncut]
  | no => simp_arith [f_Cutter_uncut, b_Cutter_uncut]
theorem c_feed1 (o o2 : Ow) (ho : o ≠ .lent) (r p : List Int) (hr : r.length ≤ 5000) (hp : p.length ≤ 5000) : callQ P FUEL (k + 3) i_Cutter_feed [.obj 0, .lst o2 (p.map .int)] [ob o r true] = .val (.lst .own []) [ob .own (r ++ p) true] := by
  rw [callX at_Cutter_feed rfl]
  unfold ob
  rw [List.map_append]
  have lr : (r.map Vl.int).length ≤ 5000 := by rw [List.length_map]; exact hr
  have lp : (p.map Vl.int).length ≤ 5000 := by rw [List.length_map]; exact hp
  generalize r.map Vl.int = RV at *
  generalize p.map Vl.int = PV at *
  cases o with
  | lent => exact absurd rfl ho
  | own => cases o2 <;> simp_arith [f_Cutter_feed, b_Cutter_feed]
  | no => cases o2 <;> simp_arith [f_Cutter_feed, b_Cutter_feed]
theorem c_feed2 (o o2 : Ow) (ho : o ≠ .lent) (r p : List Int) (hr : r.length ≤ 5000) (hp : p.length ≤ 5000) : callQ P FUEL (k + 3) i_Cutter_feed [.obj 0, .lst o2 (p.map .int)] [ob o r false] = .val (.lst .no (C (r ++ p)).1) [ob .no (rst (r ++ p)) (C (r ++ p)).2.2] := by
  rw [callX at_Cutter_feed rfl]
  have c := fun S => c_cut k S (r ++ p) .lent (by rw [List.length_append]; omega)
  unfold res at c
  unfold ob rst
  rw [List.map_append] at c
  have lr : (r.map Vl.int).length ≤ 5000 := by rw [List.length_map]; exact hr
  have lp : (p.map Vl.int).length ≤ 5000 := by rw [List.length_map]; exact hp
  generalize C (r ++ p) = R at *
  generalize ((r ++ p).drop R.2.1).map Vl.int = OV at *
  generalize r.map Vl.int = RV at *
  generalize p.map Vl.int = PV at *
  cases o with
  | lent => exact absurd rfl ho
  | own => cases o2 <;> simp_arith [f_Cutter_feed, b_Cutter_feed, c]
  | no => cases o2 <;> simp_arith [f_Cutter_feed, b_Cutter_feed, c]
end
section
variable (k : Nat)
theorem feedU (o o2 : Ow) (ho : o ≠ .lent) (d p : List Int) (hd : d.length ≤ 5000) (hp : p.length ≤ 5000) : ∃ (o' o3 : Ow) (ms : List Vl), o' ≠ .lent ∧ (C (d ++ p)).1 = (C d).1 ++ ms ∧
    callQ P FUEL (k + 3) i_Cutter_feed [.obj 0, .lst o2 (p.map .int)] [ob o (rst d) (C d).2.2] = .val (.lst o3 ms) [ob o' (rst (d ++ p)) (C (d ++ p)).2.2] := by
  have rl : (rst d).length ≤ 5000 := by unfold rst; rw [List.length_drop]; omega
  cases h : (C d).2.2 with
  | true =>
    refine ⟨.own, .own, [], by decide, by rw [C_bad h, List.append_nil], ?_⟩
    rw [c_feed1 k o o2 ho (rst d) p rl hp, rst_bad h, C_bad h, h]
  | false =>
    refine ⟨.no, .no, (C (rst d ++ p)).1, by decide, ?_, ?_⟩
    · rw [C_more h]; rfl
    · rw [c_feed2 k o o2 ho (rst d) p rl hp, rst_more h, C_more h]; rfl
/-- one portion -/
theorem step (ns us : List Int) (hus : us.length ≤ 2000) (o : Ow) (ho : o ≠ .lent) (a j : Nat) (ha : a < us.length) (hj : j ≤ 90000) : ∃ (o' : Ow) (s : Nat), o' ≠ .lent ∧ s ≤ 31 ∧ (j % 40 = 39 → s = 31) ∧
    xb P FUEL (k + 4) lp_law_0 [some (.scr (ns.map .int)), some (.lst .own (us.map .int)), some (.obj 0), some (.lst .own (C (us.take a)).1), some (.int a), some (.int j), none, none, none, none, none] [ob o (rst (us.take a)) (C (us.take a)).2.2] =
      .nx [some (.scr (ns.map .int)), some (.lst .own (us.map .int)), some (.obj 0), some (.lst .own (C (us.take (min (a + s) us.length))).1), some (.int (min (a + s) us.length : Nat)), some (.int (j + 1 : Nat)), none, none, none, none, none] [ob o' (rst (us.take (min (a + s) us.length))) (C (us.take (min (a + s) us.length))).2.2] := by
  have r := fun S => c_row (k + 2) S ns (100 + j)
  have rn := rowV_nn ns (100 + j)
  generalize rowV ns (100 + j) = row at r rn
  obtain ⟨s, hs, hs31⟩ : ∃ s : Nat, s ≤ 31 ∧ (s : Int) = if j % 40 = 39 then 31 else row % 31 := by
    split
    · exact ⟨31, by omega, rfl⟩
    · exact ⟨(row % 31).toNat, by omega, by omega⟩
  have ad : us.take (min (a + s) us.length) = us.take a ++ (us.drop a).take s := by
    rw [show min (a + s) us.length = a + min s (us.length - a) by omega, List.take_add]
    congr 1
    rw [List.take_eq_take_iff, List.length_drop]
    omega
  have pl : ((us.drop a).take s).length = min (a + s) us.length - a := by rw [List.length_take, List.length_drop]; omega
  have cu : ∀ o, cutP (.lst o (us.map .int)) (some (a : Int)) (some ((a : Int) + (s : Int))) = some (.lst .own (((us.drop a).take s).map .int)) := fun o => by
    show some (Vl.lst .own (cutU _ _ _)) = _
    rw [cut_int _ _ _ (by omega) (by omega), Int.toNat_natCast, show ((a : Int) + (s : Int)).toNat - a = s by omega, drop_map]
  have pn : (a : Int) + ((((us.drop a).take s).map Vl.int).length : Int) = ((min (a + s) us.length : Nat) : Int) := by rw [List.length_map, pl]; omega
  generalize hP : (us.drop a).take s = p at *
  have tl : (us.take a).length ≤ 5000 := by rw [List.length_take]; omega
  obtain ⟨o', o3, ms, ho', hm, fd⟩ := feedU (k + 1) o .lent ho (us.take a) p tl (by omega)
  rw [← ad] at hm fd
  have cu2 : ∀ o, cutP (.lst o (us.map .int)) none (some ((min (a + s) us.length : Nat) : Int)) = some (.lst .own ((us.take (min (a + s) us.length)).map .int)) := fun o => by
    show some (Vl.lst .own (cutU _ _ _)) = _
    rw [cut_to _ _ (by omega), Int.toNat_natCast, List.map_take]
  have cc := fun S => c_cut (k + 2) S (us.take (min (a + s) us.length)) .own (by rw [List.length_take]; omega)
  have cf := c_fault (k + 3) o' (rst (us.take (min (a + s) us.length))) (C (us.take (min (a + s) us.length))).2.2
  have cun := c_uncut (k + 3) o' ho' (rst (us.take (min (a + s) us.length))) (C (us.take (min (a + s) us.length))).2.2
  have ml := C_many (us.take (min (a + s) us.length))
  have tl2 : (us.take (min (a + s) us.length)).length ≤ 2000 := by rw [List.length_take]; omega
  rw [hm, List.length_append] at ml
  have ml2 := Nat.le_trans ml tl2
  clear ml
  rw [show ((j + 1 : Nat) : Int) = (j : Int) + 1 by omega]
  have em := fun o o' => C_dat (us.take (min (a + s) us.length)) (o := o) (o' := o')
  have er := fun o o' => eqP_reflL (o := o) (o' := o') (Dat.ints (k := 19) (o := o) (rst (us.take (min (a + s) us.length))))
  have ep := fun o o' => eqP_reflL (o := o) (o' := o') (Dat.ints (k := 19) (o := o) p)
  refine ⟨o', s, ho', hs, fun h => by rw [if_pos h] at hs31; omega, ?_⟩
  unfold res at cc
  rw [show (us.take (min (a + s) us.length)).drop (C (us.take (min (a + s) us.length))).2.1 = rst (us.take (min (a + s) us.length)) from rfl] at cc
  rw [hm] at cc em ⊢
  unfold ob at *
  generalize (C (us.take (min (a + s) us.length))).2.2 = fl at *
  generalize (rst (us.take (min (a + s) us.length))).map Vl.int = RV at *
  generalize (us.take (min (a + s) us.length)).map Vl.int = TV at *
  generalize hb : min (a + s) us.length = b at *
  have bl : b ≤ 2000 := by omega
  generalize (rst (us.take a)).map Vl.int = RA at *
  generalize (C (us.take a)).2.2 = fa at *
  generalize (C (us.take a)).1 = MA at *
  generalize p.map Vl.int = PV at *
  generalize us.map Vl.int = UV at *
  generalize ns.map Vl.int = NV at *
  clear hm ad hP pl rn tl tl2 hb
  by_cases h : j % 40 = 39
  · rw [if_pos h] at hs31
    have hj2 : (j : Int) % 40 = 39 := by omega
    cases fl <;> simp_arith [lp_law_0, r, hj2, ← hs31, cu, fd, ep, pn, cu2, cc, em, cf, cun, er]
  · rw [if_neg h] at hs31
    have hj2 : ¬ (j : Int) % 40 = 39 := by omega
    cases fl <;> simp_arith [lp_law_0, r, hj2, ← hs31, cu, fd, ep, pn, cu2, cc, em, cf, cun, er]
end
section
variable (k : Nat)
theorem whL (ns us : List Int) (hus : us.length ≤ 2000) : ∀ (n a j : Nat) (o : Ow), o ≠ .lent → a ≤ us.length → (a < us.length → 31 * (j / 40) ≤ a) → j ≤ 40 * (us.length / 31) + 40 → 40 * (us.length / 31) + 41 < n + j →
    ∃ (o' : Ow) (j' : Nat), o' ≠ .lent ∧ loopWP (xt P FUEL (k + 4) wc_law_0) (xb P FUEL (k + 4) lp_law_0) n [some (.scr (ns.map .int)), some (.lst .own (us.map .int)), some (.obj 0), some (.lst .own (C (us.take a)).1), some (.int a), some (.int j), none, none, none, none, none] [ob o (rst (us.take a)) (C (us.take a)).2.2] =
      .nx [some (.scr (ns.map .int)), some (.lst .own (us.map .int)), some (.obj 0), some (.lst .own (C us).1), some (.int us.length), some (.int j'), none, none, none, none, none] [ob o' (rst us) (C us).2.2]
  | 0, a, j, o, ho, h1, h2, h3, h4 => by omega
  | n + 1, a, j, o, ho, h1, h2, h3, h4 => by
    have ln : ∀ o, lenP (.lst o (us.map .int)) = some us.length := fun o => by show some _ = _; rw [List.length_map]
    by_cases h : a < us.length
    · obtain ⟨o', s, ho', s1, s2, st⟩ := step k ns us hus o ho a j h (by omega)
      have q := h2 h
      obtain ⟨o2, j2, h5, h6⟩ := whL ns us hus n (min (a + s) us.length) (j + 1) o' ho' (by omega) (fun z => by omega) (by omega) (by omega)
      refine ⟨o2, j2, h5, ?_⟩
      have ct : xt P FUEL (k + 4) wc_law_0 [some (.scr (ns.map .int)), some (.lst .own (us.map .int)), some (.obj 0), some (.lst .own (C (us.take a)).1), some (.int a), some (.int j), none, none, none, none, none] [ob o (rst (us.take a)) (C (us.take a)).2.2] = .val true [some (.scr (ns.map .int)), some (.lst .own (us.map .int)), some (.obj 0), some (.lst .own (C (us.take a)).1), some (.int a), some (.int j), none, none, none, none, none] [ob o (rst (us.take a)) (C (us.take a)).2.2] := by
        have w : (a : Int) < (us.length : Int) := by omega
        clear st h6
        generalize (C (us.take a)).1 = MA
        generalize us.map Vl.int = UV at *
        generalize ns.map Vl.int = NV at *
        simp_arith [wc_law_0, ln, w]
      rw [loopW_nx ct st]
      exact h6
    · have e : a = us.length := by omega
      subst e
      rw [List.take_length]
      refine ⟨o, j, ho, loopW_f ?_⟩
      generalize (C us).1 = MA
      generalize us.map Vl.int = UV at *
      generalize ns.map Vl.int = NV at *
      simp_arith [wc_law_0, ln]
theorem law_run (ns : List Int) (hn : ns.length ≤ 63) : ∃ S1, callQ P FUEL (k + 5) i_law [.scr (ns.map .int)] [] = .val (.bl true) S1 := by
  rw [callX at_law rfl]
  obtain ⟨us, hl, h1⟩ := c_stream (k + 1) [] ns (min ns.length 40 + 2) (by omega)
  have mn : (if (40 : Int) < (ns.length : Int) then (40 : Int) else (ns.length : Int)) + 2 = ((min ns.length 40 + 2 : Nat) : Int) := by split <;> omega
  have mn2 : min (ns.length : Int) 40 + 2 = ((min ns.length 40 + 2 : Nat) : Int) := by omega
  have ci : callQ P FUEL (k + 4) i_Cutter___init__ [.obj 0] [(0, [])] = .val .non [(0, [(0, .lst .own []), (1, .bl false)])] := c_init (k + 3) []
  have cf0 := c_fault (k + 3) .own [] false
  have cu0 := c_uncut (k + 3) .own (by decide) [] false
  have fd0 := c_feed2 (k + 1) .own .own (by decide) [] [] (by simp) (by simp)
  rw [List.append_nil, C_nil, show rst [] = [] from by unfold rst; rw [List.drop_nil]] at fd0
  obtain ⟨o', j', ho', wl⟩ := whL k ns us hl FUEL 0 0 .no (by decide) (Nat.zero_le _) (fun _ => by omega) (by omega) (by unfold FUEL; omega)
  rw [List.take_zero, C_nil, show rst [] = [] from by unfold rst; rw [List.drop_nil]] at wl
  simp only [Int.natCast_zero] at wl
  have cun := c_uncut (k + 3) o' ho' (rst us) (C us).2.2
  have cc := fun S => c_cut (k + 2) S us .lent (by omega)
  have er := fun o o' => eqP_reflL (o := o) (o' := o') (Dat.ints (k := 19) (o := o) (rst us))
  have en : ∀ o o', eqP (.lst o []) (.lst o' []) = some true := fun o o' => eqP_reflL (Dat.ints (k := 19) (o := o) [])
  have rl : ((rst us).map Vl.int).length ≤ 2000 := by rw [List.length_map]; unfold rst; rw [List.length_drop]; omega
  unfold res at cc
  rw [show us.drop (C us).2.1 = rst us from rfl] at cc
  have lnS : lenP (.scr (ns.map .int)) = some ns.length := by show some _ = _; rw [List.length_map]
  unfold ob at *
  simp only [List.map_nil, List.nil_append] at *
  generalize C us = R at *
  generalize (rst us).map Vl.int = RV at *
  generalize us.map Vl.int = UV at *
  generalize ns.map Vl.int = NV at *
  exact ⟨_, by simp_arith [f_law, b_law, lnS, mn, mn2, h1, ci, cf0, cu0, fd0, en, xs_whl, wl, cun, cc, er]; rfl⟩
theorem law_true (ns : List Int) (hn : ns.length ≤ 63) : ∃ S1, callQ P FUEL LEVEL 12 [.scr (ns.map .int)] [] = .val (.bl true) S1 := law_run 7 ns hn
end
end Lk08
open PySem PySem.W PySem.Calls PyProof.Rows
theorem PySem.Challenge.cw_sillwatch_k08_cutter_in_portions_holds : PySem.Challenge.rw_sillwatch_k08_cutter_in_portions.Holds := by
  w_on; o_law
  refine HandSHeadRun.head_any (r := OpenLaw.row PySem.Challenge.rw_sillwatch_k08_cutter_in_portions) (q := view (OpenLaw.row PySem.Challenge.rw_sillwatch_k08_cutter_in_portions).prog [14]) (H := Lk08E.hk) (ob := Lk08E.ob) (M := 6000) (loose := [("octets_number" : PySem.Str), ("HEADER" : PySem.Str), ("SIZE_MOST" : PySem.Str), ("size_fits" : PySem.Str), ("cut_messages" : PySem.Str), ("Cutter" : PySem.Str), ("_law_cell" : PySem.Str), ("_law_row" : PySem.Str), ("_law_message" : PySem.Str), ("_law_stream" : PySem.Str), ("_law_cut" : PySem.Str)]) (d := HandSHeadRun.topDef (OpenLaw.row PySem.Challenge.rw_sillwatch_k08_cutter_in_portions).prog 14) (kwd := []) Lk08E.ob_eq
    (by kernel_rfl) (fun s => by kernel_rfl) Lk08E.run (by kernel_rfl) (by kernel_rfl) (by kernel_rfl) (by rfl) (by first | assumption | decide +kernel) (by decide +kernel) ⟨rfl, rfl, rfl, rfl, rfl, by decide +kernel⟩ ?hw ?hc
  case hw => w_witness2
  case hc =>
    refine L2.walk_ofE (l := PySem.Challenge.rw_sillwatch_k08_cutter_in_portions) (n := 63) (k := 2 * Lk08.LEVEL) (x := "script") (CX := PyI.CXw PySem.Challenge.pw_sillwatch_k08_cutter_in_portions) rfl (by decide) (by kernel_rfl) ⟨rfl, by decide, by decide⟩ ?F (fun H s e s' z => PyI.CXw.no H s e s' z)
    intro w mg fa h Y G hmg0
    obtain ⟨K, KX, c, cp⟩ := Y
    have hmg : mg ("law" : PySem.Str) = some (.ref fa) := by
      have e : (HandSHeadRun.topDef (OpenLaw.row PySem.Challenge.rw_sillwatch_k08_cutter_in_portions).prog 14).name = ("law" : PySem.Str) := by kernel_rfl
      rw [← e]
      exact hmg0
    obtain ⟨fd, sp, hb, hsp, hF⟩ := Lk08E.facts (w := w) (fun ns h => by
      obtain ⟨S1, e⟩ := Lk08.law_true ns h
      obtain ⟨as, e2⟩ := PyM.callP_of e
      exact PyM.law_pure Lk08.md_ok e2) KX G hmg c cp
    exact ⟨K, fd, sp, KX, hb, hsp, hF⟩
